/- Part V14 of the proof. -/
import Derived.Test.YtdgbhlkabelmbaaGreatDoorV13
import Derived.Lib.ItoaNum
set_option linter.all false
namespace Go.Abs
theorem my(p:List Rat):(dZ p).length≤p.length- 1:=by
 have:=bF (aO (p.length- 1) fun i=>coP p (i+1) * ((i+1:Nat):Int));simpa[dZ] using this
def sqfM(f:Nat)(p:List Rat):Option (List Rat):=
 if smL p∧p.length≤274877906944 then(EX f p (dZ p)).bind fun g=>if aq g≠[]∧lG p g then some (ki (fW p g).1) else none
 else none
def boL(lead:Rat):List Rat→Rat→Rat
 |[],m=>m
 |c::l,m=>boL lead l (nO [m,fS (c/ lead)])
def gC(p:List Rat):Rat:=boL (aS p) ((aq p).take ((aq p).length- 1)) 0+1
def pf(p:List Rat):Prop:=mxL p≤34359738368∧p.length≤274877906944
instance (p:List Rat):Decidable (pf p):=inferInstanceAs (Decidable (_∧_))
theorem qs_abs(q:Rat):qs (fS q)=qs q:=by
 unfold qs;rw[A5,A6,Int.natAbs_natCast]
theorem maxL_le{l:List Rat}{n:Nat}(h:bdL l n)(hn:1≤n):qs (nO l)≤n:=by
 unfold nO
 have b:∀(a:Int→Bool) (l:List Rat) (o:Rat),qs o≤n→bdL l n→qs (l.foldl (fun o y=>if a (fy y o) then y else o) o)≤n:=by
  intro a l
  induction l with
  |nil=>intro o e _;exact e
  |cons y l g=>
   intro o e f;refine g _ ?_ fun q d=>f q (List.mem_cons_of_mem _ d);show qs (if a (fy y o)=true then y else o)≤n;split;exact f y (List.mem_cons_self ..);exact e
 cases l with
 |nil=>exact Nat.le_trans (by decide:qs 0≤1) hn
 |cons x l=>exact b (fun c=>decide (0< c)) l x (h x (List.mem_cons_self ..)) fun q d=>h q (List.mem_cons_of_mem _ d)
theorem BW(p:List Rat):aS (aq p)=aS p:=by unfold aS;rw[eU]
def chL:List Int→Int→Int→Int
 |[],n,_=>n
 |s::l,n,last=>if s≠0 then chL l (if s= -last then n+1 else n) s else chL l n last
def yz(f:Nat):Nat→List Rat→List Rat→List (List Rat)→Option (List (List Rat))
 |0,_,_,_=>none
 |k+1,last,next,acc=>
  if aq next=[] then some acc
  else if xw next∧lG last (er next)∧aq (er next)≠[] then yz f k (er next) (aX (fW last (er next)).2 (-1)) (acc++[er next])
  else none
def Bp(f:Nat)(p:List Rat):Option (List (List Rat)):=
 if smL p∧xw p∧aq p≠[] then yz f f (er p) (dZ p) [er p] else none
def cE(l:List (List Rat)):List (List AV):=l.map fun p=>[.arr (pE p)]
@[simp] theorem cE_length (l:List (List Rat)):(cE l).length=l.length:=by simp[cE]
theorem CV{l:List (List Rat)}{i:Nat}{p:List Rat}(h:l[i]?=some p):(cE l)[i]?=some [.arr (pE p)]:=by simp[cE,h]
theorem dr(l:List (List Rat)):(cE l).all (·.all AV.one)=true:=by
 simp only[cE,List.all_map,List.all_eq_true];intro q _;rfl
theorem jp(l:List (List Rat)):∀e∈cE l,∀c∈e,Closed c:=by
 intro e a c hc;obtain⟨q,_,rfl⟩:=List.mem_map.1 a;rw[List.mem_singleton.1 hc];exact ax q
theorem ni(l:List (List Rat)):Closed (.arr (cE l)):=aH (jp l)
theorem cE_snoc(l:List (List Rat))(p:List Rat):cE (l++[p])=cE l++[[.arr (pE p)]]:=by simp[cE]
theorem AEval.lenC{P:Program}{id:Nat}{ev:Operand→Option AV}{hp:Nat→Option ABlk}{c:Call}{x:Operand}{T:Nat}{d:Nat×Nat}{l:List (List Rat)}(hc:c.callee= .builtin .len)(ha:c.args= #[x])(ht:c.argTypes= #[T])(hx:ev x=some (.arr (cE l)))(he:ec P T=some d):
    AEval P id ev hp (.call c) ⟨.v (.int .i64 (l.length:Nat)),[]⟩ []:= .len hc ha ht hx (by simp[qF]) he
structure Cnt where
 p:List Rat
 ch:List (List Rat)
 far:Int
def kC(c:Cnt):List AV:=[.arr (pE c.p),.arr (cE c.ch),i64 c.far]
abbrev kA(c:Cnt):AV:= .aptr [kC c] 0 0
theorem wE(c:Cnt):∀x∈kC c,Closed x:=ac (ax _) (ac (ni _) (ac (ag _) af))
theorem gF(c:Cnt):Closed (kA c):=ba (wE c)
def sgI(q:List Rat):Int:=if bD q % 2=1 then -sgZ (aS q).num else sgZ (aS q).num
def sgE(x:Rat)(q:List Rat):Int:=sgZ (au q x).num
theorem mM(z:Int): -1≤sgZ z∧sgZ z≤1:=by
 unfold sgZ;split;omega;split <;> omega
theorem sgI_abs(q:List Rat): -1≤sgI q∧sgI q≤1:=by
 have:=mM (aS q).num;unfold sgI;split <;> omega
theorem u0:∀(l:List Int) (n last:Int),n≤chL l n last∧chL l n last≤n+l.length
 |[],n,_=>⟨Int.le_refl _,by simp[chL]⟩
 |s::l,n,last=>by
  unfold chL;split;split;have:=u0 l (n+1) s;simp only[List.length_cons];omega;have:=u0 l n s;simp only[List.length_cons];omega;have:=u0 l n last;simp only[List.length_cons];omega
def zq(c:Cnt):Prop:=(∀q∈c.ch,aq q≠[]∧q.length≤274877906944)∧c.ch.length≤274877906944∧c.far=chL (c.ch.map sgI) 0 0
instance (c:Cnt):Decidable (zq c):=inferInstanceAs (Decidable (_∧_∧_))
def jh(f:Nat)(p:List Rat):Option Cnt:=
 (sqfM f p).bind fun s=>(Bp f s).bind fun ch=>if zq ⟨s,ch,chL (ch.map sgI) 0 0⟩ then some ⟨s,ch,chL (ch.map sgI) 0 0⟩ else none
def e8(c:Cnt)(x:Rat):Int:=c.far- chL (c.ch.map (sgE x)) 0 0
def rW(c:Cnt)(x:Rat):Prop:=zq c∧∀q∈c.ch,ff q x
instance (c:Cnt) (x:Rat):Decidable (rW c x):=inferInstanceAs (Decidable (_∧_))
def dR(c:Cnt)(x:Rat):Int:=if au c.p x=0 then e8 c x- 1 else e8 c x
def pg(c:Cnt)(x:Rat):Prop:=rW c x∧ff c.p x
instance (c:Cnt) (x:Rat):Decidable (pg c x):=inferInstanceAs (Decidable (_∧_))
def allV(c:Cnt):Int:=e8 c (gC c.p)
def okAll(c:Cnt):Prop:=pf c.p∧aq c.p≠[]∧rW c (gC c.p)
instance (c:Cnt):Decidable (okAll c):=inferInstanceAs (Decidable (_∧_∧_))
theorem oG{c:Cnt}{x:Rat}(h:zq c): -274877906944≤e8 c x∧e8 c x≤274877906944:=by
 have h1:=u0 (c.ch.map sgI) 0 0;have a:=u0 (c.ch.map (sgE x)) 0 0;have b:=h.2.1;rw[←h.2.2] at h1;simp only[List.length_map] at h1 a;unfold e8;omega
abbrev plA(c:Cnt)(i:Int):AV:= .aptr [[kA c,i64 i]] 0 0
theorem di(c:Cnt)(i:Int):Closed (plA c i):=ba (ac (gF c) (ac (ag _) af))
def plC(c:Cnt)(i:Int)(x:Rat):Int:=if i< dR c x then -1 else if dR c x=i∧dR c x< e8 c x then 0 else 1
theorem Fz{c:Cnt}{x:Rat}(h:zq c): -274877906945≤dR c x∧dR c x≤274877906944:=by
 have:=oG (x:=x) h;unfold dR;split <;> omega
def biM(c:Cnt)(i:Int)(step:Rat):Nat→Rat→Rat→Option Rat
 |0,_,_=>none
 |f+1,lo,hi=>
  if sm lo∧sm hi∧sm (hi- lo) then
   if 0< fy (hi- lo) 1 then
    if qs (((lo+hi) / 2).floor:Rat)+qs step≤549755813888∧pg c ((((lo+hi) / 2).floor:Rat) * step) then
     if 0≤plC c i ((((lo+hi) / 2).floor:Rat) * step) then biM c i step f (((lo+hi) / 2).floor:Rat) hi
     else biM c i step f lo (((lo+hi) / 2).floor:Rat)
    else none
   else some lo
  else none
def inK(a v:Rat)(out zeros:List Rat):Rat:=(v- au out a) / au zeros a
def okIn(a v:Rat)(out zeros:List Rat):Prop:=sm a∧sm v∧ff out a∧ff zeros a∧au zeros a≠0∧sm (inK a v out zeros)∧smL out∧smL zeros∧smL (aX zeros (inK a v out zeros))∧eS zeros [-a,1]∧out.length≤274877906944
instance (a v:Rat) (out zeros:List Rat):Decidable (okIn a v out zeros):=inferInstanceAs (Decidable (_∧_∧_∧_∧_∧_∧_∧_∧_∧_∧_))
theorem lu(i:Nat):coP [] i=0:=rfl
theorem fb(a:Rat)(l:List Rat):coP (a::l) 0=a:=rfl
theorem fx(a:Rat)(l:List Rat)(i:Nat):coP (a::l) (i+1)=coP l i:=rfl
theorem b5(l:List Rat)(i:Nat):coP (aq l) i=coP l i:=by
 induction l generalizing i with
 |nil=>rfl
 |cons a l c=>
  rw[em];split
  ·rename_i h
   have b:∀j,coP l j=0:=fun j=>by rw[←c j,h];rfl
   split
   ·rename_i ha
    cases i with
    |zero=>rw[ha];rfl
    |succ i=>rw[fx,b];rfl
   cases i with
   |zero=>rfl
   |succ i=>rw[fx,fx,b];rfl
  cases i with
  |zero=>rfl
  |succ i=>rw[fx,fx,c]
theorem coP_tab(n:Nat)(f:Nat→Rat)(i:Nat):coP (aO n f) i=if i< n then f i else 0:=by
 unfold coP aO;grind
theorem ez(p q:List Rat)(i:Nat):coP (fR p q) i=coP p i+coP q i:=by
 unfold fR;rw[b5,coP_tab];split;rfl
 ·rw[fO (by omega),fO (by omega)];grind
theorem bO(p:List Rat)(k:Rat)(i:Nat):coP (aX p k) i=coP p i* k:=by
 unfold aX;rw[b5,coP_tab];split;rfl
 ·rw[fO (by omega)];grind
theorem cP(p q:List Rat)(i:Nat):coP (cK p q) i=coP p i- coP q i:=by
 unfold cK;rw[ez,bO];grind
theorem ri(a:Rat)(i:Nat):coP (ed a) i=if i=0 then a else 0:=by
 unfold ed;rw[b5];cases i <;> rfl
theorem eW(p:List Rat)(i:Nat):coP (aK p) i=if i=0 then 0 else coP p (i- 1) / ((i:Nat):Int):=by
 unfold aK;rw[b5,coP_tab];split;rfl
 ·rw[if_neg (by omega),fO (by omega),Rat.div_def,Rat.zero_mul]
theorem ta{p q:List Rat}(h:∀i,coP p i=coP q i):aq p=aq q:=by
 induction p generalizing q with
 |nil=>
  induction q with
  |nil=>rfl
  |cons b q c=>
   have hb:b=0:=(h 0).symm;rw[em,←c fun i=>h (i+1),if_pos hb];rfl
 |cons a p c=>
  cases q with
  |nil=>
   have ha:a=0:=h 0;rw[em,c (q:=[]) fun i=>h (i+1),if_pos ha];rfl
  |cons b q=>
   have d:a=b:=h 0;rw[em,em,c (q:=q) fun i=>h (i+1),d]
theorem trim_iff{p q:List Rat}:aq p=aq q↔∀i,coP p i=coP q i:=
 ⟨fun h i=>by rw[←b5 p,h,b5],ta⟩
theorem trim_nil_iff{p:List Rat}:aq p=[]↔∀i,coP p i=0:=
 ⟨fun h i=>by rw[←b5 p,h];rfl,fun h=>ta (q:=[]) h⟩
theorem c9(x:Rat):au [] x=0:=rfl
theorem bY(a:Rat)(l:List Rat)(x:Rat):au (a::l) x=au l x* x+a:=rfl
theorem uD{p:List Rat}(h:∀i,coP p i=0)(x:Rat):au p x=0:=by
 induction p with
 |nil=>rfl
 |cons a p b=>
  have ha:a=0:=h 0;rw[bY,b fun i=>h (i+1)];grind
theorem gE{p q:List Rat}(h:∀i,coP p i=coP q i)(x:Rat):au p x=au q x:=by
 induction p generalizing q with
 |nil=>exact(uD (fun i=>(h i).symm) x).symm
 |cons a p d=>
  cases q with
  |nil=>exact uD h x
  |cons b q=>
   have c:a=b:=h 0;rw[bY,bY,d (q:=q) fun i=>h (i+1),c]
theorem nZ(p:List Rat)(x:Rat):au (aq p) x=au p x:=gE (b5 p) x
def vd:List Rat→List Rat→List Rat
 |[],q=>q
 |p,[]=>p
 |a::p,b::q=>(a+b)::vd p q
def qn(p:List Rat)(k:Rat):List Rat:=p.map (· * k)
def EQ:List Rat→List Rat→List Rat
 |[],_=>[]
 |a::p,q=>vd (qn q a) (0::EQ p q)
theorem p8(p q:List Rat)(i:Nat):coP (vd p q) i=coP p i+coP q i:=by
 induction p generalizing q i with
 |nil=>rw[vd,lu];grind
 |cons a p c=>
  cases q with
  |nil=>rw[vd,lu]; · grind
        grind
  |cons b q=>
   cases i with
   |zero=>rfl
   |succ i=>exact c q i
theorem ls(p:List Rat)(k:Rat)(i:Nat):coP (qn p k) i=coP p i* k:=by
 induction p generalizing i with
 |nil=>show(0:Rat)=0* k;grind
 |cons a p b=>
  cases i with
  |zero=>rfl
  |succ i=>exact b i
theorem uG(p q:List Rat)(x:Rat):au (vd p q) x=au p x+au q x:=by
 induction p generalizing q with
 |nil=>rw[vd,c9];grind
 |cons a p c=>
  cases q with
  |nil=>rw[vd,c9]; · grind
        grind
  |cons b q=>rw[vd,bY,bY,bY];grind
theorem pU(p:List Rat)(k x:Rat):au (qn p k) x=au p x* k:=by
 induction p with
 |nil=>show(0:Rat)=0* k;grind
 |cons a p b=>show au (qn p k) x* x+a* k=_;rw[bY];grind
theorem uF(p q:List Rat)(x:Rat):au (EQ p q) x=au p x* au q x:=by
 induction p with
 |nil=>show(0:Rat)=0* _;grind
 |cons a p b=>rw[EQ,uG,pU,bY,bY];grind
theorem iB(p q:List Rat)(x:Rat):au (fR p q) x=au p x+au q x:=by
 rw[←uG];exact gE (fun i=>by rw[ez,p8]) x
theorem dT(p:List Rat)(k x:Rat):au (aX p k) x=au p x* k:=by
 rw[←pU];exact gE (fun i=>by rw[bO,ls]) x
theorem iA(p q:List Rat)(x:Rat):au (cK p q) x=au p x- au q x:=by
 unfold cK;rw[iB,dT];grind
theorem Au(a x:Rat):au (ed a) x=a:=by
 rw[ed,nZ];show 0* x+a=a;grind
def jO(p q:List Rat):Nat→Nat→Rat
 |0,_=>0
 |i+1,n=>jO p q i n+(if i≤n then coP p i* coP q (n- i) else 0)
theorem AE(o:List Rat)(a:Rat)(q:List Rat)(i:Nat)(h:∀k,k< q.length→i+k< o.length):∀k n,k≤q.length→coP (jD o a q i k) n=coP o n+(if i≤n∧n< i+k then a* coP q (n- i) else 0)
 |0,n,_=>by show coP o n=_;grind
 |k+1,n,hk=>by
  rw[jD,rj,y4];by_cases hn:n=i+k;subst hn;rw[if_pos ⟨rfl,h k (by omega)⟩,tG o a q i k (i+k) (by omega),if_pos (by omega),show i+k- i=k by omega];rw[AE o a q i h k n (by omega)];grind
theorem AF(p q:List Rat)(n:Nat):∀i,i≤p.length→coP (eQ p q i) n=jO p q i n
 |0,_=>by
  show coP (List.replicate _ 0) n=0;unfold coP;grind
 |i+1,hi=>by
  have a:=AF p q n i (by omega);rw[eQ,jO];split
  ·grind
  rw[AE _ _ _ _ (fun k b=>by rw[lZ];omega) _ _ (Nat.le_refl _),a];by_cases h1:i≤n;rw[if_pos h1];by_cases h2:n< i+q.length;rw[if_pos ⟨h1,h2⟩];rw[fO (p:=q) (by omega)];grind;grind
theorem uP(a:Rat)(p q:List Rat)(n:Nat):∀i,jO (a::p) q (i+1) n=a* coP q n+(match n with|0=>0|m+1=>jO p q i m)
 |0=>by
  show(0:Rat)+(if 0≤n then coP (a::p) 0* coP q (n- 0) else 0)=_;rw[fb];cases n <;> simp[jO,Rat.add_zero,Rat.zero_add]
 |i+1=>by
  rw[jO,uP a p q n i];cases n with
  |zero=>grind
  |succ m=>
   show a* coP q (m+1)+jO p q i m+_=a* coP q (m+1)+(jO p q i m+_);by_cases h:i≤m;rw[fx];grind;grind
theorem uR(p q:List Rat)(n:Nat):coP (EQ p q) n=jO p q p.length n:=by
 induction p generalizing n with
 |nil=>rfl
 |cons a p b=>
  rw[EQ,p8,ls,List.length_cons,uP];cases n with
  |zero=>rw[fb];grind
  |succ m=>rw[fx];grind
theorem El(p q:List Rat)(n:Nat):coP (aL p q) n=coP (EQ p q) n:=by
 unfold aL;split
 ·rename_i h
  rcases h with rfl|rfl
  rfl;rw[uR]
  have:∀i,jO p [] i n=0:=by
   intro i
   induction i with
   |zero=>rfl
   |succ i a=>rw[jO,lu];grind
  rw[this];rfl
 rw[b5,AF _ _ _ _ (Nat.le_refl _),uR]
theorem eJ(p q:List Rat)(x:Rat):au (aL p q) x=au p x* au q x:=by
 rw[←uF];exact gE (El p q) x
def ED:List Rat→Rat→List Rat
 |[],_=>[]
 |[_],_=>[]
 |_::b::l,r=>au (b::l) r::ED (b::l) r
theorem vG(p:List Rat)(r x:Rat):au p x=au (ED p r) x* (x- r)+au p r:=by
 induction p with
 |nil=>show(0:Rat)=0* _+0;grind
 |cons a l c=>
  cases l with
  |nil=>show 0* x+a=0* (x- r)+(0* r+a);grind
  |cons b l=>
   rw[ED,bY a,bY a,bY (au (b::l) r)];grind
theorem FY(p:List Rat)(r:Rat):(ED p r).length=p.length- 1:=by
 induction p with
 |nil=>rfl
 |cons a l c=>
  cases l with
  |nil=>rfl
  |cons b l=>rw[ED,List.length_cons,c];simp
theorem tI:∀(n:Nat) (p xs:List Rat),p.length≤n→n≤xs.length→xs.Nodup→(∀x∈xs,au p x=0)→∀x,au p x=0
 |0,p,_,hp,_,_,_,x=>by
  have:p=[]:=List.length_eq_zero_iff.1 (by omega);rw[this];rfl
 |n+1,p,xs,hp,hx,hnd,hz,x=>by
  cases xs with
  |nil=>grind
  |cons r xs=>
   rw[List.nodup_cons] at hnd;have b:=hz r (List.mem_cons_self ..)
   have c:=tI n (ED p r) xs (by rw[FY];omega) (by grind) hnd.2 fun y a=>by
    have h1:=vG p r y;grind
   rw[vG p r x];grind
theorem yf{p:List Rat}(h:∀x,au p x=0):∀i,coP p i=0:=by
 induction p with
 |nil=>intro i;rfl
 |cons a p g=>
  have ha:a=0:=by
   have:=h 0;rw[bY] at this;grind
  have hp:∀x,au p x=0:=by
   -- at all places but 0,so at all
   refine tI p.length p ((List.range p.length).map fun i=>(((i+1:Nat):Int):Rat)) (Nat.le_refl _) (by simp) ?_ ?_;refine List.Pairwise.map _ (fun i j d=>?_) List.nodup_range;intro e;have:=Rat.intCast_inj.1 e;omega;intro x c;obtain⟨i,_,rfl⟩:=List.mem_map.1 c;have h1:=h (((i+1:Nat):Int):Rat);rw[bY] at h1;have f:au p (((i+1:Nat):Int):Rat) * (((i+1:Nat):Int):Rat)=0:=by grind
   rcases Rat.mul_eq_zero.1 f with b|b
   exact b;have:=Rat.intCast_inj.1 (b.trans Rat.intCast_zero.symm);omega
  intro i;cases i with
  |zero=>exact ha
  |succ i=>exact g hp i
theorem gi{p q:List Rat}(h:∀x,au p x=au q x):aq p=aq q:=by
 refine ta fun i=>?_;have:=yf (p:=cK p q) (fun x=>by rw[iA];grind) i;rw[cP] at this;grind
theorem EP(p q:List Rat)(hp:p≠[]):(aL p q).length≤p.length+q.length- 1:=by
 unfold aL;split;simp;have:=bF (eQ p q p.length);rwa[lZ] at this
theorem fJ{p:List Rat}{k:Rat}{s t:Nat}(hp:bdL p s)(hs:1≤s)(hk:qs k≤t):bdL (aX p k) (s+t):=
 lx fun i=>by
  rw[bO];have h1:=dK (coP p i) k;have a:=eP hp hs i;omega
theorem yF{p q:List Rat}{s t:Nat}(hp:bdL p s)(hq:bdL q t)(hs:1≤s)(ht:1≤t):bdL (fR p q) (s+t+1):=
 lx fun i=>by
  rw[ez];have h1:=kg (coP p i) (coP q i);have b:=eP hp hs i;have a:=eP hq ht i;omega
def dvE:List Rat→Rat→Rat
 |[],_=>0
 |_::l,x=>au l x+dvE l x* x
theorem H4(a:Rat)(l:List Rat)(x:Rat):dvE (a::l) x=au l x+dvE l x* x:=rfl
theorem CB(q:List Rat)(x:Rat)(m:Nat)(h:m< q.length):au (q.take (m+1)) x=au (q.take m) x+coP q m* x^ m:=by
 induction q generalizing m with
 |nil=>cases h
 |cons a q b=>
  cases m with
  |zero=>rw[List.take_succ_cons,Rat.pow_zero];show 0* x+a=0+a* 1;grind
  |succ m=>rw[List.take_succ_cons,List.take_succ_cons,bY,bY,fx];grind
theorem rH(x:Rat)(n:Nat):∀m,x^ (n+m)=x^ n* x^ m
 :=by grind
theorem wT{p:List Rat}{n:Nat}(h:∀j,n≤j→coP p j=0):(aq p).length≤n:=by
 apply Nat.le_of_not_lt;intro c;have h1:=ef (l:=p) (n:=(aq p).length- 1) (by omega);have b:aq p≠[]:=fun e=>by grind
 have a:=h ((aq p).length- 1) (by omega);rw[←b5] at a;unfold coP at a;rw[List.getD_eq_getElem?_getD,h1] at a;exact fZ b a
section
variable (p q r:List Rat)(a b:Rat)
end
def nz(p:List Rat):Prop:=aq p≠[]
def dg(p:List Rat):Nat:=(aq p).length- 1
def Eqv(p q:List Rat):Prop:=∀x,au p x=au q x
theorem eqv_trim{p q:List Rat}:Eqv p q↔aq p=aq q:=
 ⟨gi,fun h x=>by rw[←nZ p,h,nZ]⟩
def isDeg(p:List Rat)(n:Nat):Prop:=coP p n≠0∧∀i,n< i→coP p i=0
theorem kK{p:List Rat}(h:nz p):isDeg p (dg p)∧coP p (dg p)=aS p:=by
 have c:=List.length_pos_iff.2 h;have h1:=ef (l:=p) (n:=dg p) (by unfold dg;omega)
 have a:coP p (dg p)=aS p:=by
  rw[←b5];unfold coP;grind
 refine⟨⟨by rw[a];exact fZ h,fun i b=>?_⟩,a⟩;rw[←b5];exact fO (by unfold dg at b;omega)
theorem GP{p:List Rat}{n:Nat}(h:isDeg p n):nz p∧dg p=n∧aS p=coP p n:=by
 have b:nz p:=fun e=>h.1 (trim_nil_iff.1 e n);obtain⟨h1,c⟩:=kK b
 have e:dg p=n:=by
  rcases Nat.lt_trichotomy (dg p) n with a|a|a
  exact absurd (h1.2 n a) h.1;exact a;exact absurd (h.2 _ a) h1.1
 grind




theorem degP_dg{p:List Rat}(h:nz p):bD p=(dg p:Int):=by
 have:=List.length_pos_iff.2 h;unfold bD dg;omega
theorem degP_nil{p:List Rat}:bD p< 0↔¬nz p:=by
 unfold bD nz;constructor;intro h e;have:=List.length_pos_iff.2 e;omega;intro h;have:aq p=[]:=Decidable.byContradiction h;rw[this];decide
theorem sD{p:List Rat}{t:Nat}(h:bdL p t)(ht:1≤t):qs (aS p)≤t:=by
 by_cases h0:aq p=[];rw[qG h0];exact Nat.le_trans (by decide:qs 0≤1) ht;have a:=List.length_pos_iff.2 h0;exact h _ (c7 (List.mem_of_getElem? (ef (n:=(aq p).length- 1) (by omega))))
def lag(v:List Rat):Nat→Rat
 |0=>0
 |m+1=>coP v m
theorem Ie(v:List Rat)(c:Rat)(n:Nat):coP (aL v [c,1]) n=coP v n* c+lag v n:=by
 have e:aq (aL v [c,1])=aq (aL [c,1] v):=gi fun x=>by rw[eJ,eJ];grind
 rw[trim_iff.1 e n,El];show coP (vd (qn v c) (0::vd (qn v 1) (0::[]))) n=_;rw[p8,ls];cases n with
 |zero=>rw[fb];rfl
 |succ m=>
  rw[fx,p8,ls];have:coP [(0:Rat)] m=0:=by cases m <;> rfl
  rw[this];show _+(coP v m* 1+0)=_+coP v m;grind
theorem nu(v:List Rat)(c:Rat):(aL v [c,1]).length≤v.length+1:=by
 by_cases h:v=[];subst h;unfold aL;simp;have:=EP v [c,1] h;simpa using this
theorem kn(p:List Rat):(aK p).length≤p.length+1:=by
 have:=bF (aO (p.length+1) fun i=>if i=0 then 0 else coP p (i- 1) / ((i:Nat):Int));simp at this;unfold aK;omega
theorem tk(p q:List Rat):(cK p q).length≤max p.length q.length:=by
 have h1:=jV p (aX q (-1));have a:=cL q (-1);unfold cK;omega
theorem u7{l:List Rat}{a b:Nat}(h:bdL l a)(hab:a≤b):bdL l b:=fun q c=>Nat.le_trans (h q c) hab

theorem bd_co'{p:List Rat}{s:Nat}(h:bdL p s)(hs:1≤s):∀i,qs (coP p i)≤s:=fun i=>eP h hs i
theorem bdL_neg{p:List Rat}{s:Nat}(h:bdL p s)(hs:1≤s):bdL (aX p (-1)) s:=lx fun i=>by
 rw[bO,show coP p i* (-1)= -coP p i by grind,iW];exact bd_co' h hs i
theorem AS{p q:List Rat}{s t:Nat}(hp:bdL p s)(hq:bdL q t)(hs:1≤s)(ht:1≤t):bdL (fR p q) (s+t+1):=lx fun i=>by
 rw[ez];have:=kg (coP p i) (coP q i);have:=bd_co' hp hs i;have:=bd_co' hq ht i;omega
theorem Iq{p q:List Rat}{s t:Nat}(hp:bdL p s)(hq:bdL q t)(hs:1≤s)(ht:1≤t):bdL (cK p q) (s+t+1):=AS hp (bdL_neg hq ht) hs ht
theorem AQ{p:List Rat}{s:Nat}(h:bdL p s):bdL (aq p) s:=fun q a=>h q (c7 a)
def shP(i:Nat)(v:List Rat):List Rat:=List.replicate i 0++v
theorem nI(i:Nat)(v:List Rat):(shP i v).length=i+v.length:=by simp[shP]
theorem yV(i:Nat)(v:List Rat):shP (i+1) v=0::shP i v:=by simp[shP,List.replicate_succ]
theorem Ar(v:List Rat)(x:Rat):∀i,au (shP i v) x=au v x* x^ i
 |0=>by simp[shP]
 |i+1=>by
  rw[yV,bY,Ar v x i,Rat.pow_succ];grind
theorem rf(v:List Rat)(i n:Nat):coP (shP i v) n=if n< i then 0 else coP v (n- i):=by
 induction i generalizing n with
 |zero=>simp[shP]
 |succ i a=>
  rw[yV];cases n with
  |zero=>rw[fb,if_pos (by omega)]
  |succ n=>
   rw[fx,a,Nat.add_sub_add_right];by_cases h:n< i;rw[if_pos h,if_pos (by omega)];rw[if_neg h,if_neg (by omega)]
def mR(p q:List Rat):Nat→List Rat
 |0=>[]
 |n+1=>fR (mR p q n) (shP n (aX p (coP q n)))
theorem As(p q:List Rat)(x:Rat):∀n,n≤q.length→au (mR p q n) x=au p x* au (q.take n) x
 |0,_=>by simp[mR,c9]
 |n+1,h=>by
  rw[mR,iB,As p q x n (by omega),Ar,dT,CB q x n (by omega)];grind
theorem trim_mR(p q:List Rat):∀n,aq (mR p q n)=mR p q n
 |0=>rfl
 |n+1=>eU _
theorem EC(p q:List Rat):aq (aL p q)=aL p q:=by
 unfold aL;split;rfl;exact eU _
theorem G0(p q:List Rat):mR p q q.length=aL p q:=by
 rw[←trim_mR,←EC];refine gi fun x=>?_;rw[As p q x _ (Nat.le_refl _),List.take_length,eJ]
theorem sA{p:List Rat}{a:Rat}{d:Nat}:∀n,n≤d→mR p (shP d [a]) n=[]
 |0,_=>rfl
 |n+1,h=>by
  rw[mR,sA n (by omega)];refine trim_nil_iff.2 fun i=>?_;have h1:coP (shP d [a]) n=0:=by rw[rf,if_pos (by omega)]
  have b:coP (aO (max ([]:List Rat).length (shP n (aX p (coP (shP d [a]) n))).length) fun i=>coP [] i+coP (shP n (aX p (coP (shP d [a]) n))) i) i=coP [] i+coP (shP n (aX p (coP (shP d [a]) n))) i:=by
   rw[←b5];exact ez _ _ i
  rw[b,lu,rf,bO,h1];split <;> grind
theorem BU{p:List Rat}{a:Rat}{d s:Nat}(hp:bdL p s)(hs:1≤s)(n:Nat)(hn:n≤d+1):bdL (mR p (shP d [a]) n) (s+qs a+2):=by
 by_cases h:n≤d;rw[sA n h];exact fun _ h=>by cases h
 have:n=d+1:=by omega
 subst this;refine lx fun i=>?_;rw[mR,ez,sA d (Nat.le_refl _),lu,Rat.zero_add,rf];split;have:qs 0=1:=by decide
 omega;rw[bO,rf,if_neg (by omega),Nat.sub_self,fb];have:=dK (coP p (i- d)) a;have:=bd_co' hp hs (i- d);omega
theorem Ic(d:List Rat)(a:Rat)(k j:Nat):coP (aL d (shP k [a])) j=if j< k then 0 else coP d (j- k) * a:=by
 have e:mR d (shP k [a]) (shP k [a]).length=aL d (shP k [a]):=G0 _ _;rw[←e,show(shP k [a]).length=k+1 by rw[nI];rfl,mR,ez,sA k (Nat.le_refl _),lu,Rat.zero_add,rf,bO,rf,if_neg (Nat.lt_irrefl k),Nat.sub_self,fb]
theorem zH{v:List Rat}{n:Nat}(h:aq v=v)(hn:v.length=n+1):coP v n=aS v:=by
 have:=ef (l:=v) (n:=n) (by rw[h];exact hn);rw[h,ca (by omega)] at this;exact Option.some.inj this
theorem F1{v d:List Rat}(hv:aq v=v)(hd:aq d=d)(hd0:d≠[])(hl:d.length≤v.length):(cK v (aL d (shP (v.length- d.length) [aS v/ aS d]))).length< v.length:=by
 have c:=List.length_pos_iff.2 hd0;obtain⟨m,b⟩:∃m,d.length=m+1:=⟨d.length- 1,by omega⟩;obtain⟨n,f⟩:∃n,v.length=n+1:=⟨v.length- 1,by omega⟩;have g:aS d≠0:=fZ (by rw[hd];exact hd0)
 have a:∀j,n≤j→coP (cK v (aL d (shP (v.length- d.length) [aS v/ aS d]))) j=0:=fun j i=>by
  rw[cP,Ic,if_neg (by omega)];by_cases h:j=n;subst h;rw[zH hv f,show j- (v.length- d.length)=m by omega,zH hd b];grind;rw[fO (p:=v) (by omega),fO (p:=d) (by omega)];grind
 have h1:=wT a;have e:aq (cK v (aL d (shP (v.length- d.length) [aS v/ aS d])))=cK v (aL d (shP (v.length- d.length) [aS v/ aS d])):=eU _;rw[e] at h1;omega
theorem EB(p q:List Rat):aq (cK p q)=cK p q:=eU _
theorem step_bd{v d:List Rat}{b t:Nat}(hv:bdL v b)(hd:bdL d t)(hb:1≤b)(ht:1≤t)(hd0:d≠[])(k:Nat):qs (aS v/ aS d)≤b+t∧bdL (aL d (shP k [aS v/ aS d])) (2* t+b+2)∧bdL (cK v (aL d (shP k [aS v/ aS d]))) (2* b+2* t+3):=by
 have h1:=sD hv hb;have f:=sD hd ht;have e:=gO (aS v) (aS d)
 have c:bdL (aL d (shP k [aS v/ aS d])) (2* t+b+2):=by
  have:=BU (a:=aS v/ aS d) (d:=k) hd ht (k+1) (Nat.le_refl _);rw[show k+1=(shP k [aS v/ aS d]).length by rw[nI];rfl,G0] at this;exact u7 this (by omega)
 exact⟨by omega,c,u7 (Iq hv c hb (by omega)) (by omega)⟩
theorem bdL_sh{v:List Rat}{b:Nat}(h:bdL v b)(hb:1≤b)(k:Nat):bdL (shP k v) b:=fun q c=>by
 rcases List.mem_append.1 c with a|a
 rw[List.eq_of_mem_replicate a];have:qs 0=1:=by decide
 omega;exact h q a
def ab(x:Rat):Rat:=if x< 0 then -x else x
theorem ie(x:Rat):0≤ab x:=by unfold ab;grind
theorem ab_le{x c:Rat}:ab x≤c↔ -c≤x∧x≤c:=by unfold ab;grind
theorem ru(x y:Rat):ab (x+y)≤ab x+ab y:=by unfold ab;grind
theorem IG(x:Rat):ab (-x)=ab x:=by unfold ab;grind
theorem ja(x y:Rat):ab (x* y)=ab x* ab y:=by
 have c:∀a b:Rat,0≤a→0≤b→ab (a* b)=a* b:=fun a b ha hb=>by
  have:=Rat.mul_nonneg ha hb;unfold ab;grind
 by_cases hx:x< 0;by_cases hy:y< 0;have:=c (-x) (-y) (by grind) (by grind);rw[show x* y= -x* -y by grind,this];unfold ab;rw[if_pos hx,if_pos hy];have:=c (-x) y (by grind) (by grind);rw[show x* y= -(-x* y) by grind,IG,this];unfold ab;rw[if_pos hx,if_neg hy];by_cases hy:y< 0;have:=c x (-y) (by grind) (by grind);rw[show x* y= -(x* -y) by grind,IG,this];unfold ab;rw[if_neg hx,if_pos hy];have:=c x y (by grind) (by grind);rw[this];unfold ab;grind
theorem fY{a b c d:Rat}(h1:a≤b)(h2:c≤d)(h3:0≤c)(h4:0≤b):a* c≤b* d:=by
 have e1:=Rat.mul_le_mul_of_nonneg_right h1 h3;have e2:=Rat.mul_le_mul_of_nonneg_left h2 h4;grind
def bV(R:Rat):List Rat→Rat
 |[]=>0
 |a::l=>bV R l* R+ab a
theorem nD{R:Rat}(hR:0≤R):∀l,0≤bV R l
 |[]=>by simp[bV]
 |a::l=>by
  have h1:=Rat.mul_nonneg (nD hR l) hR;have b:=ie a;rw[bV];grind
theorem gV{R x:Rat}(hR:0≤R)(hx:ab x≤R):∀l,ab (au l x)≤bV R l
 |[]=>by rw[c9,bV];decide
 |a::l=>by
  have h1:=gV hR hx l;have c:=fY h1 hx (ie x) (nD hR l);have b:=ru (au l x* x) a;rw[ja] at b;rw[bY,bV];grind
def bL(R:Rat):List Rat→Rat
 |[]=>0
 |_::l=>bL R l* R+bV R l
theorem AZ{R:Rat}(hR:0≤R):∀l,0≤bL R l
 |[]=>by simp[bL]
 |a::l=>by
  have h1:=Rat.mul_nonneg (AZ hR l) hR;have b:=nD hR l;rw[bL];grind
theorem nf{R x y:Rat}(hR:0≤R)(hx:ab x≤R)(hy:ab y≤R):∀l,ab (au l y- au l x)≤bL R l* ab (y- x)
 |[]=>by
  rw[c9,c9,bL,Rat.zero_mul];decide+kernel
 |a::l=>by
  have h1:=nf hR hx hy l;have c:=gV hR hx l;have e:au (a::l) y- au (a::l) x=(au l y- au l x) * y+au l x* (y- x):=by rw[bY,bY];grind
  have d:=ru ((au l y- au l x) * y) (au l x* (y- x));rw[ja,ja] at d;have b:=ie (y- x);have f:=fY h1 hy (ie y) (Rat.mul_nonneg (AZ hR l) b);have g:=Rat.mul_le_mul_of_nonneg_right c b;rw[bL];grind
def bT(R:Rat):List Rat→Rat
 |[]=>0
 |_::l=>bT R l* R+bL R l
theorem Es{R:Rat}(hR:0≤R):∀l,0≤bT R l
 |[]=>by simp[bT]
 |a::l=>by
  have h1:=Rat.mul_nonneg (Es hR l) hR;have b:=AZ hR l;rw[bT];grind
theorem qW{R x y:Rat}(hR:0≤R)(hx:ab x≤R)(hy:ab y≤R):∀l,ab (au l y- au l x- (y- x) * dvE l x)≤bT R l* (ab (y- x) * ab (y- x))
 |[]=>by
  rw[c9,c9,bT,show dvE [] x=0 from rfl,Rat.zero_mul,Rat.mul_zero];decide+kernel
 |a::l=>by
  have h1:=qW hR hx hy l;have c:=nf hR hx hy l;have e:au (a::l) y- au (a::l) x- (y- x) * dvE (a::l) x=(au l y- au l x- (y- x) * dvE l x) * x+(au l y- au l x) * (y- x):=by rw[bY,bY,H4];grind
  have d:=ru ((au l y- au l x- (y- x) * dvE l x) * x) ((au l y- au l x) * (y- x));rw[ja,ja] at d;have b:=ie (y- x);have f:=fY h1 hx (ie x) (Rat.mul_nonneg (Es hR l) (Rat.mul_nonneg b b));have g:=Rat.mul_le_mul_of_nonneg_right c b;rw[e,bT];grind
inductive Gsn:Int→List Int→List Int→Prop
 |nil {t:Int}:Gsn t [] []
 |solid {t s:Int} {l l':List Int}:s≠0→Gsn s l l'→Gsn t (s::l) (s::l')
 |weak {t x y:Int} {l l':List Int}:(x=0∨x=t∨x= -t)→(y=0∨y=t∨y= -t)→Gsn (-t) l l'→Gsn t (x:: -t::l) (y:: -t::l')
theorem nk:∀(l:List Int) (n t:Int),chL l n t=n+chL l 0 t
 |[],n,t=>by simp[chL]
 |s::l,n,t=>by
  unfold chL;by_cases hs:s≠0;rw[if_pos hs,if_pos hs,nk l (if s= -t then n+1 else n),nk l (if s= -t then 0+1 else 0)];split <;> omega;rw[if_neg hs,if_neg hs];exact nk l n t
theorem AH{t x:Int}(ht:t≠0)(hx:x=0∨x=t∨x= -t)(l:List Int)(n:Int):chL (x:: -t::l) n t=chL l (n+1) (-t):=by
 rcases hx with rfl|rfl|rfl
 rw[chL,if_neg (by simp),chL,if_pos (by omega),if_pos rfl];rw[chL,if_pos ht,if_neg (by omega),chL,if_pos (by omega),if_pos rfl];rw[chL,if_pos (by omega),if_pos rfl,chL,if_pos (by omega),if_neg (by omega)]
theorem uZ{t:Int}{l l':List Int}(h:Gsn t l l'):t≠0→∀n,chL l n t=chL l' n t:=by
 induction h with
 |nil=>exact fun _ _=>rfl
 |solid hs _ a=>
  intro ht n;rw[chL,if_pos hs,chL,if_pos hs];exact a hs _
 |weak b c _ a=>
  intro ht n;rw[AH ht b,AH ht c];exact a (by omega) _
theorem uY{s:Int}{l l':List Int}(hs:s≠0)(h:Gsn s l l'):chL (s::l) 0 0=chL (s::l') 0 0:=by
 rw[chL,if_pos hs,chL,if_pos hs];exact uZ h hs _
theorem AJ{s s' t:Int}{l l':List Int}(ht:t=1∨t= -1)(hs: -1≤s∧s≤1)(hs': -1≤s'∧s'≤1)(hm:t* s≤t* s')(h:Gsn t l l'):chL (s'::t::l') 0 0≤chL (s::t::l) 0 0:=by
 have a:t≠0:=by omega
 have b:∀(u:Int) (k:List Int),-1≤u∧u≤1→chL (u::t::k) 0 0=(if u= -t then 1 else 0)+chL k 0 t:=fun u k c=>by
  by_cases h0:u=0;subst h0;rw[chL,if_neg (by simp),chL,if_pos a,if_neg (by omega),if_neg (by omega)];omega;rw[chL,if_pos h0,if_neg (by omega),chL,if_pos a,nk];by_cases h1:u= -t;rw[if_pos (by omega),if_pos h1];omega;rw[if_neg (by omega),if_neg h1]
 rw[b s l hs,b s' l' hs',uZ h a 0];rcases ht with rfl|rfl <;> split <;> split <;> omega
theorem num_pos{q:Rat}:0< q.num↔0< q:=by
 have b:0≤q.num↔0≤q:=Rat.num_nonneg;have a:q.num=0↔q=0:=Rat.num_eq_zero;grind
theorem lb{q:List Rat}{x:Rat}(h:0< au q x):sgE x q=1:=by
 have:=sgZ_num_gt.2 h;have:=mM (au q x).num;unfold sgE;omega
theorem oV{q:List Rat}{x:Rat}(h:au q x< 0):sgE x q= -1:=by
 have:=sgZ_num_lt.2 h;have:=mM (au q x).num;unfold sgE;omega
theorem oU{q:List Rat}{x:Rat}(h:au q x=0):sgE x q=0:=sgZ_num_eq.2 h
theorem fm(x:Rat)(q:List Rat): -1≤sgE x q∧sgE x q≤1:=mM _
theorem cS(x:Rat)(q:List Rat):(sgE x q=1∧0< au q x)∨(sgE x q= -1∧au q x< 0)∨(sgE x q=0∧au q x=0):=by
 by_cases h:0< au q x;exact .inl ⟨lb h,h⟩;by_cases h':au q x< 0;exact .inr (.inl ⟨oV h',h'⟩);have e:au q x=0:=by grind
 exact .inr (.inr ⟨oU e,e⟩)
theorem oW{q:List Rat}{x y:Rat}(h:au q x≤au q y):sgE x q≤sgE y q:=by
 rcases cS x q with⟨a,b⟩|⟨a,b⟩|⟨a,b⟩
 rw[a,lb (by grind)];decide;have:=fm y q;omega;by_cases h0:0< au q y;rw[a,lb h0];decide;rw[a,oU (by grind)];decide
theorem part(e:Rat){d:Rat}(he:0< e)(hd:0< d):∃h:Rat,0< h∧h* d=e:=by
 refine⟨e/ d,?_,Rat.div_mul_cancel (by grind)⟩;have e1:e/ d* d=e:=Rat.div_mul_cancel (by grind);by_cases h:0< e/ d;exact h;have a:e/ d* d≤0* d:=Rat.mul_le_mul_of_nonneg_right (by grind) (by grind);grind
theorem less(a b:Rat)(ha:0< a)(hb:0< b):∃h:Rat,0< h∧h≤a∧h≤b:=by grind
theorem keep(u:List Rat){R e:Rat}(hR:0≤R)(he:0< e):∃h:Rat,0< h∧∀x y:Rat,ab x≤R→ab y≤R→ab (y- x)≤h→e≤ab (au u x)→sgE y u=sgE x u∧sgE x u≠0:=by
 have l:=AZ hR u;obtain⟨h,j,h1⟩:=part e (d:=2* (bL R u+1)) he (by grind);refine⟨h,j,fun x y g i k ha=>?_⟩;have m:=nf hR g i u;have n:=Rat.mul_le_mul_of_nonneg_left k l;have o:=ab_le (x:=au u y- au u x) (c:=ab (au u y- au u x))|>.1 (by grind);rcases cS x u with⟨a,b⟩|⟨a,b⟩|⟨a,b⟩
 have f:ab (au u x)=au u x:=by unfold ab;grind
 rw[a,lb (by grind)];decide;have f:ab (au u x)= -au u x:=by unfold ab;grind
 rw[a,oV (by grind)];decide;have f:ab (au u x)=0:=by rw[b];decide
 grind
inductive Ch:List Rat→List (List Rat)→Prop
 |one {u:List Rat} {c:Rat}:c≠0→(∀x,au u x=c)→Ch u []
 |pair {u v:List Rat}:Ch v []→Ch u [v]
 |step {u v w:List Rat} {L:List (List Rat)} {a c:Rat} {q:List Rat}:0< a→0< c→(∀x,a* au u x+c* au w x=au q x* au v x)→Ch v (w::L)→Ch u (v::w::L)
def Cl(u:List Rat)(L:List (List Rat)):Prop:=∀R e:Rat,0≤R→0< e→∃h:Rat,0< h∧∀x y:Rat,ab x≤R→ab y≤R→ab (y- x)≤h→e≤ab (au u x)→
 sgE y u=sgE x u∧sgE x u≠0∧Gsn (sgE x u) (L.map (sgE x)) (L.map (sgE y))
theorem Ch.const{v:List Rat}(h:Ch v []):∃c:Rat,c≠0∧∀x,au v x=c:=by
 cases h with
 |one hc h=>simp_all
theorem Ch.sg{v:List Rat}(h:Ch v [])(x y:Rat):sgE y v=sgE x v∧sgE x v≠0:=by
 obtain⟨c,hc,h⟩:=h.const;have e:sgE y v=sgE x v:=by unfold sgE;grind
 rcases cS x v with⟨a,b⟩|⟨a,b⟩|⟨a,b⟩
 omega;omega;grind
theorem Ch.cl{u:List Rat}{L:List (List Rat)}(H:Ch u L):Cl u L∧∀v L',L=v::L'→Cl v L':=by
 induction H with
 | @one u c hc k=>
  refine⟨fun R e f n=>?_,fun _ _ h=>by cases h⟩;obtain⟨h,s,h1⟩:=keep u f n;exact⟨h,s,fun x y b i o ha=>⟨(h1 x y b i o ha).1,(h1 x y b i o ha).2,.nil⟩⟩
 | @pair u v hv ih=>
  refine⟨fun R e f n=>?_,fun _ _ h=>by grind⟩;obtain⟨h,s,h1⟩:=keep u f n;refine⟨h,s,fun x y b i o ha=>⟨(h1 x y b i o ha).1,(h1 x y b i o ha).2,?_⟩⟩;simp only[List.map_cons,List.map_nil];rw[(hv.sg x y).1];exact .solid (hv.sg x y).2 .nil
 | @step u v w L a c q ha hc hrel hv ih=>
  refine⟨fun R e f n=>?_,fun _ _ h=>by cases h;exact ih.1⟩;have hQ:=nD f q;have r:=Rat.mul_pos ha n;obtain⟨e1,B,D⟩:=part (a* e) (d:=2* (bV R q+1)) r (by grind);obtain⟨e2,A,E⟩:=part (a* e) (d:=2* c) r (by grind);obtain⟨s,S,M⟩:=keep u f n;obtain⟨h1,p1,K⟩:=ih.1 R e1 f B;obtain⟨N,p2,O⟩:=ih.2 w L rfl R e2 f A;obtain⟨G,F,V,T⟩:=less s h1 S p1;obtain⟨h,p,l,m⟩:=less G N F p2;refine⟨h,p,fun x y b i o k=>?_⟩;obtain⟨s1,s2⟩:=M x y b i (by grind) k;refine⟨s1,s2,?_⟩;by_cases hvx:e1≤ab (au v x);obtain⟨t1,t2,z⟩:=K x y b i (by grind) hvx;simp only[List.map_cons] at z⊢;rw[t1];exact .solid t2 z;have b1:=fY (gV f b q) (show ab (au v x)≤e1 by grind) (ie _) hQ;rw[←ja,←hrel x] at b1;have b2:=ab_le.1 b1;have U:bV R q* e1+e1=a* e/ 2:=by grind
  have j:sgE x w= -sgE x u∧e2≤ab (au w x):=by
   rcases cS x u with⟨t,C⟩|⟨t,C⟩|⟨t,C⟩
   have g3:ab (au u x)=au u x:=by unfold ab;rw[if_neg (by grind)]
   rw[g3] at k;have Q:=Rat.mul_le_mul_of_nonneg_left k (show 0≤a by grind)
   have J:au w x≤ -e2:=by
    by_cases g:au w x≤ -e2;exact g;have:=Rat.mul_pos hc (show 0< au w x+e2 by grind);grind
   refine⟨by rw[t,oV (by grind)],?_⟩;unfold ab;rw[if_pos (by grind)];grind;have g3:ab (au u x)= -au u x:=by unfold ab;rw[if_pos C]
   rw[g3] at k;have Q:=Rat.mul_le_mul_of_nonneg_left k (show 0≤a by grind)
   have J:e2≤au w x:=by
    by_cases g:e2≤au w x;exact g;have:=Rat.mul_pos hc (show 0< e2- au w x by grind);grind
   refine⟨by rw[t,lb (by grind)];decide,?_⟩;unfold ab;rw[if_neg (by grind)];grind;exact absurd t s2
  obtain⟨t1,t2,z⟩:=O x y b i (by grind) j.2;simp only[List.map_cons];rw[t1,j.1];rw[j.1] at z;have c1:=fm x u;have X:=fm x v;have W:=fm y v;exact .weak (by omega) (by omega) z
theorem Ch.bez{u:List Rat}{M:List (List Rat)}(H:Ch u M):∀v L,M=v::L→∃a b:List Rat,∀x,au a x* au u x+au b x* au v x=1:=by
 induction H with
 |one hc g=>grind
 | @pair u v hv ih=>
  intro f L h;cases h;obtain⟨c,hc,h⟩:=hv.const;refine⟨[],[1/ c],fun x=>?_⟩;rw[bY,c9];grind
 | @step u v w L a c q ha hc hrel hv ih=>
  intro f i h;obtain⟨e,d,h⟩:=ih w L rfl;refine⟨aX d (-(a/ c)),fR e (aX (aL d q) (1/ c)),fun x=>?_⟩;rw[dT,iB,dT,eJ];grind
theorem arch(c:Rat){h:Rat}(hh:0< h):∃n:Nat,c≤((n:Int):Rat) * h:=by
 by_cases hc:c≤0;exact⟨0,by grind⟩;obtain⟨k,a,e⟩:=part c (d:=h) (by grind) hh
 have h1:k≤((k.num.natAbs:Int):Rat):=by
  have b:0< k.num:=num_pos.2 a;rw[Rat.le_iff];show k.num* 1≤(k.num.natAbs:Int) * (k.den:Int);have f:=Int.mul_le_mul_of_nonneg_left (show(1:Int)≤(k.den:Int) by have:=k.den_pos;omega) (show 0≤k.num by omega);grind
 have g:=Rat.mul_le_mul_of_nonneg_right h1 (show 0≤h by grind);grind
theorem grid {f:Rat→Int} (r:Int→Int→Prop) (hr:∀a,r a a) (ht:∀a b c,r a b→r b c→r a c) {lo hi h:Rat} (hh:0< h)
    (hs:∀x y,lo≤x→x≤y→y≤hi→y- x≤h→r (f x) (f y)):∀(n:Nat) (x y:Rat),lo≤x→x≤y→y≤hi→y- x≤((n:Int):Rat) * h→r (f x) (f y)
 |0,x,y,h1,h2,h3,h4=>by grind
 |n+1,x,y,h1,h2,h3,h4=>by
  by_cases hd:y- x≤h;exact hs x y h1 h2 h3 hd;exact ht _ _ _ (hs x (x+h) h1 (by grind) (by grind) (by grind)) (grid r hr ht hh hs n (x+h) y (by grind) (by grind) h3 ((by grind)))
theorem way {f:Rat→Int} (r:Int→Int→Prop) (hr:∀a,r a a) (ht:∀a b c,r a b→r b c→r a c) {x y h:Rat} (hh:0< h) (hxy:x≤y)
    (hs:∀u v,x≤u→u≤v→v≤y→v- u≤h→r (f u) (f v)):r (f x) (f y):=by
 obtain⟨n,d⟩:=arch (y- x) hh;exact grid r hr ht hh hs n x y (by grind) hxy (by grind) d
def chV(l:List (List Rat))(x:Rat):Int:=chL (l.map (sgE x)) 0 0
theorem rR{x y u:Rat}(h1:x≤u)(h2:u≤y):ab u≤ab x+ab y:=by
 have a:=ab_le (x:=x) (c:=ab x)|>.1 (by grind);have b:=ab_le (x:=y) (c:=ab y)|>.1 (by grind);exact ab_le.2 ⟨by grind,by grind⟩
theorem IE{u v h:Rat}(h1:u≤v)(h2:v- u≤h):ab (v- u)≤h:=by
 unfold ab;grind
theorem Ch.same{u:List Rat}{L:List (List Rat)}(H:Ch u L){e x y:Rat}(he:0< e)(hxy:x≤y)(ha:∀z,x≤z→z≤y→e≤ab (au u z)):chV (u::L) x=chV (u::L) y:=by
 obtain⟨h,i,h1⟩:=H.cl.1 (ab x+ab y) e (by have:=ie x;have:=ie y;grind) he;refine way (f:=chV (u::L)) (· = ·) (fun _=>rfl) (fun _ _ _=>Eq.trans) i hxy fun z w a b c d=>?_;obtain⟨s1,s2,g⟩:=h1 z w (rR a (by grind)) (rR (by grind) c) (IE b d) (ha z a (by grind));unfold chV;simp only[List.map_cons];rw[s1];exact uY s2 g
theorem GF{k T d uz uw D e v:Rat}(hk:0< k)(h1:k* -T≤k* (uw- uz- d* D))(h2:T* k≤d* e)(h3:d* e≤d* v)(h4:v=k* D):uz≤uw:=by
 subst h4;by_cases h:uz≤uw;exact h;have:=Rat.mul_pos hk (show 0< uz- uw by grind);grind
theorem outweigh'{k T d uz uw D e v:Rat}(hk:0< k)(h1:k* (uw- uz- d* D)≤k* T)(h2:T* k≤d* e)(h3:d* e≤d* -v)(h4:v=k* D):uw≤uz:=by
 subst h4;by_cases h:uw≤uz;exact h;have:=Rat.mul_pos hk (show 0< uw- uz by grind);grind
theorem Ch.fall{u v:List Rat}{L:List (List Rat)}{k:Rat}(H:Ch u (v::L))(hk:0< k)(hd:∀x,au v x=k* dvE u x){x y:Rat}(hxy:x≤y):chV (u::v::L) y≤chV (u::v::L) x:=by
 have g:0≤ab x+ab y:=by have:=ie x;have:=ie y;grind
 generalize n:ab x+ab y=R at g;obtain⟨a,b,hb⟩:=H.bez v L rfl;have hA:=nD g a;have hB:=nD g b;obtain⟨e,F,Q⟩:=part 1 (d:=2* (bV R a+bV R b+1)) (by decide+kernel) (by grind);obtain⟨h1,p1,U⟩:=H.cl.1 R e g F;obtain⟨W,p2,X⟩:=H.cl.2 v L rfl R e g F;have O:=Es g u;obtain⟨j,N,V⟩:=part e (d:=k* (bT R u+1)) F (Rat.mul_pos hk (by grind));obtain⟨T,S,l4,m4⟩:=less h1 W p1 p2;obtain⟨h,p,l,m⟩:=less T j S N;refine way (f:=chV (u::v::L)) (fun s t=>t≤s) (fun _=>Int.le_refl _) (fun _ _ _ C M=>Int.le_trans M C) p hxy fun z w C M g3 g4=>?_;have A:ab z≤R:=by rw[←n];exact rR C (by grind)
 have D:ab w≤R:=by rw[←n];exact rR (by grind) g3
 have K:ab (w- z)=w- z:=by unfold ab;rw[if_neg (by grind)]
 by_cases hu:e≤ab (au u z);obtain⟨s1,s2,q⟩:=U z w A D (by grind) hu;refine Int.le_of_eq ?_;unfold chV;simp only[List.map_cons] at q⊢;rw[s1];exact(uY s2 q).symm
 have hv:e≤ab (au v z):=by
  by_cases hv:e≤ab (au v z);exact hv;have Z:=fY (gV g A a) (show ab (au u z)≤e by grind) (ie _) hA;have n2:=fY (gV g A b) (show ab (au v z)≤e by grind) (ie _) hB;have Y:=ru (au a z* au u z) (au b z* au v z);rw[hb z,ja,ja,show ab 1=1 by decide+kernel] at Y;grind
 obtain⟨s1,s2,q⟩:=X z w A D (by grind) hv;have i:=qW g A D u;rw[K] at i;have B:=ab_le.1 i;have o:=hd z
 -- the derivative outweighs what leaves the tangent
 have c:bT R u* ((w- z) * (w- z)) * k≤(w- z) * e:=by
  have q1:=Rat.mul_le_mul_of_nonneg_right (show w- z≤j by grind) (show 0≤w- z by grind);have q2:=Rat.mul_le_mul_of_nonneg_left q1 O;have q3:=Rat.mul_le_mul_of_nonneg_right q2 (show 0≤k by grind);have q4:(w- z) * e=bT R u* (j* (w- z)) * k+(w- z) * j* k:=by rw[←V];grind
  have q5:=Rat.mul_nonneg (Rat.mul_nonneg (show 0≤w- z by grind) (show 0≤j by grind)) (show 0≤k by grind);grind
 have r:0≤w- z:=by grind
 unfold chV;simp only[List.map_cons];rw[s1];rcases cS z v with⟨c1,J⟩|⟨c1,J⟩|⟨c1,J⟩
 have G:ab (au v z)=au v z:=by unfold ab;rw[if_neg (by grind)]
 rw[G] at hv;have E:=Rat.mul_le_mul_of_nonneg_left hv r;have up:au u z≤au u w:=GF hk (Rat.mul_le_mul_of_nonneg_left B.1 (by grind)) c E o;exact AJ (.inl c1) (fm z u) (fm w u) (by rw[c1];have:=oW up;omega) q;have G:ab (au v z)= -au v z:=by unfold ab;rw[if_pos J]
 rw[G] at hv;have E:=Rat.mul_le_mul_of_nonneg_left hv r;have up:au u w≤au u z:=outweigh' hk (Rat.mul_le_mul_of_nonneg_left B.2 (by grind)) c E o;exact AJ (.inr c1) (fm z u) (fm w u) (by rw[c1];have:=oW up;omega) q;exact absurd c1 s2


inductive Cx:List Rat→List Rat→List (List Rat)→Prop
 |nil {u n:List Rat}:¬nz n→Cx u n []
 |cons {u n v n' q:List Rat} {L:List (List Rat)} {c:Rat}:0< c→(∀x,au v x=au n x* c)→nz v→(∀x,au n' x=au q x* au v x- au u x)→Cx v n' L→Cx u n (v::L)
theorem Er(u:List Rat)(x:Rat):chV [u] x=0:=by
 unfold chV chL chL;grind
def HtF(f:Nat→Rat)(k:Rat)(h:Nat):Prop:=∀i,∃z:Int,f i* k=(z:Rat)∧bl z.natAbs≤h
def Ht(p:List Rat)(h:Nat):Prop:=∃k:Rat,k≠0∧HtF (coP p) k h
theorem Ht.quot{p:List Rat}{h:Nat}(H:Ht p h)(i j:Nat)(hj:coP p j≠0)(h1:1≤h):qs (coP p i/ coP p j)≤h:=by
 obtain⟨k,m,H⟩:=H;obtain⟨z,l,c⟩:=H i;obtain⟨w,d,b⟩:=H j
 have g:w≠0:=fun e=>by
  rw[e] at d;grind
 have e:coP p i/ coP p j=(z:Rat) / (w:Rat):=by grind
 have a:0< w.natAbs:=by omega
 by_cases hw:0< w
 have e2:(z:Rat) / (w:Rat)=mkRat z w.natAbs:=by
  rw[ot];show Rat.divInt (z* ((1:Nat):Int)) (((1:Nat):Int) * w)=_;rw[←Rat.divInt_ofNat];grind
 rw[e,e2];exact fo a c b
 have e2:(z:Rat) / (w:Rat)=mkRat (-z) w.natAbs:=by
  have f:(z:Rat) / (w:Rat)=((-z:Int):Rat) / ((-w:Int):Rat):=by grind
  rw[f,ot];show Rat.divInt (-z* ((1:Nat):Int)) (((1:Nat):Int) * -w)=_;rw[←Rat.divInt_ofNat];grind
 rw[e,e2];exact fo a (by grind) b
def hG:Nat→Nat→Nat→Nat→Nat→Nat→Bool
 |0,_,_,_,_,_=>false
 |f+1,m,n,s,t,X=>if n=0 then decide (s≤X) else
  decide (2^ (m+1- n) * (s+2* t+1)≤137438953472) && (List.range n).all fun k=>hG f n k t (s+(m+1- n) * (t+1)) X
def cB:Nat→Nat→Nat→Nat→Nat→Nat→Nat→Bool
 |0,_,_,_,_,_,_=>false
 |f+1,m,n,s,t,b,T=>if n=0 then true else
  decide (t≤T) && decide ((n+4) * b≤34359738368) && decide (2^ (m+1- n) * (s+2* t+1)≤137438953472) &&
   (List.range n).all fun k=>cB f n k t (s+(m+1- n) * (t+1)) (2^ (m+1- n) * (s+2* t+1)) T



end Go.Abs
