/- Part S14 of the proof. -/
import Derived.Test.YtkhclghbcicapaaGreatDoorS13
import Derived.Lib.ItoaNum
set_option linter.all false
namespace Go.Abs
theorem mG(p:List Rat):(dO p).length≤p.length- 1:=by
 have:=bU (aS (p.length- 1) fun i=>coP p (i+1) * ((i+1:Nat):Int));simpa[dO] using this
def sqfM(f:Nat)(p:List Rat):Option (List Rat):=
 if smL p∧p.length≤274877906944 then(Ei f p (dO p)).bind fun g=>if aq g≠[]∧li p g then some (jQ (fR p g).1) else none
 else none
def boL(lead:Rat):List Rat→Rat→Rat
 |[],m=>m
 |c::l,m=>boL lead l (nS [m,fM (c/ lead)])
def gd(p:List Rat):Rat:=boL (aR p) ((aq p).take ((aq p).length- 1)) 0+1
def oO(p:List Rat):Prop:=mxL p≤34359738368∧p.length≤274877906944
instance (p:List Rat):Decidable (oO p):=inferInstanceAs (Decidable (_∧_))
theorem qs_abs(q:Rat):qs (fM q)=qs q:=by
 unfold qs;rw[Ap,Aq,Int.natAbs_natCast]
theorem maxL_le{l:List Rat}{n:Nat}(h:bdL l n)(hn:1≤n):qs (nS l)≤n:=by
 unfold nS
 have b:∀(a:Int→Bool) (l:List Rat) (o:Rat),qs o≤n→bdL l n→qs (l.foldl (fun o y=>if a (ft y o) then y else o) o)≤n:=by
  intro a l
  induction l with
  |nil=>intro o d _;exact d
  |cons y l f=>
   intro o d hl;refine f _ ?_ fun q e=>hl q (List.mem_cons_of_mem _ e);show qs (if a (ft y o)=true then y else o)≤n;split;exact hl y (List.mem_cons_self ..);exact d
 cases l with
 |nil=>exact Nat.le_trans (by decide:qs 0≤1) hn
 |cons x l=>exact b (fun c=>decide (0< c)) l x (h x (List.mem_cons_self ..)) fun q e=>h q (List.mem_cons_of_mem _ e)
theorem Bh(p:List Rat):aR (aq p)=aR p:=by unfold aR;rw[eP]
def chL:List Int→Int→Int→Int
 |[],n,_=>n
 |s::l,n,last=>if s≠0 then chL l (if s= -last then n+1 else n) s else chL l n last
def xY(f:Nat):Nat→List Rat→List Rat→List (List Rat)→Option (List (List Rat))
 |0,_,_,_=>none
 |k+1,last,next,acc=>
  if aq next=[] then some acc
  else if w8 next∧li last (ee next)∧aq (ee next)≠[] then xY f k (ee next) (aZ (fR last (ee next)).2 (-1)) (acc++[ee next])
  else none
def AI(f:Nat)(p:List Rat):Option (List (List Rat)):=
 if smL p∧w8 p∧aq p≠[] then xY f f (ee p) (dO p) [ee p] else none
def cE(l:List (List Rat)):List (List AV):=l.map fun p=>[.arr (pE p)]
@[simp] theorem cE_length (l:List (List Rat)):(cE l).length=l.length:=by simp[cE]
theorem Ca{l:List (List Rat)}{i:Nat}{p:List Rat}(h:l[i]?=some p):(cE l)[i]?=some [.arr (pE p)]:=by simp[cE,h]
theorem eG(l:List (List Rat)):(cE l).all (·.all AV.one)=true:=by
 simp only[cE,List.all_map,List.all_eq_true];intro q _;rfl
theorem jd(l:List (List Rat)):∀e∈cE l,∀c∈e,Closed c:=by
 intro e a c hc;obtain⟨q,_,rfl⟩:=List.mem_map.1 a;rw[List.mem_singleton.1 hc];exact ax q
theorem nq(l:List (List Rat)):Closed (.arr (cE l)):=aG (jd l)
theorem cE_snoc(l:List (List Rat))(p:List Rat):cE (l++[p])=cE l++[[.arr (pE p)]]:=by simp[cE]
theorem AEval.lenC{P:Program}{id:Nat}{ev:Operand→Option AV}{hp:Nat→Option ABlk}{c:Call}{x:Operand}{T:Nat}{d:Nat×Nat}{l:List (List Rat)}(hc:c.callee= .builtin .len)(ha:c.args= #[x])(ht:c.argTypes= #[T])(hx:ev x=some (.arr (cE l)))(he:dQ P T=some d):
    AEval P id ev hp (.call c) ⟨.v (.int .i64 (l.length:Nat)),[]⟩ []:= .len hc ha ht hx (by simp[qo]) he
structure Cnt where
 p:List Rat
 ch:List (List Rat)
 far:Int
def kC(c:Cnt):List AV:=[.arr (pE c.p),.arr (cE c.ch),i64 c.far]
abbrev kA(c:Cnt):AV:= .aptr [kC c] 0 0
theorem vZ(c:Cnt):∀x∈kC c,Closed x:=ac (ax _) (ac (nq _) (ac (ag _) af))
theorem gj(c:Cnt):Closed (kA c):=a7 (vZ c)
def sgI(q:List Rat):Int:=if bv q % 2=1 then -sgZ (aR q).num else sgZ (aR q).num
def sgE(x:Rat)(q:List Rat):Int:=sgZ (au q x).num
theorem mQ(z:Int): -1≤sgZ z∧sgZ z≤1:=by
 unfold sgZ;split;omega;split <;> omega
theorem sgI_abs(q:List Rat): -1≤sgI q∧sgI q≤1:=by
 have:=mQ (aR q).num;unfold sgI;split <;> omega
theorem uB:∀(l:List Int) (n last:Int),n≤chL l n last∧chL l n last≤n+l.length
 |[],n,_=>⟨Int.le_refl _,by simp[chL]⟩
 |s::l,n,last=>by
  unfold chL;split;split;have:=uB l (n+1) s;simp only[List.length_cons];omega;have:=uB l n s;simp only[List.length_cons];omega;have:=uB l n last;simp only[List.length_cons];omega
def yO(c:Cnt):Prop:=(∀q∈c.ch,aq q≠[]∧q.length≤274877906944)∧c.ch.length≤274877906944∧c.far=chL (c.ch.map sgI) 0 0
instance (c:Cnt):Decidable (yO c):=inferInstanceAs (Decidable (_∧_∧_))
def iX(f:Nat)(p:List Rat):Option Cnt:=
 (sqfM f p).bind fun s=>(AI f s).bind fun ch=>if yO ⟨s,ch,chL (ch.map sgI) 0 0⟩ then some ⟨s,ch,chL (ch.map sgI) 0 0⟩ else none
def eV(c:Cnt)(x:Rat):Int:=c.far- chL (c.ch.map (sgE x)) 0 0
def rD(c:Cnt)(x:Rat):Prop:=yO c∧∀q∈c.ch,e8 q x
instance (c:Cnt) (x:Rat):Decidable (rD c x):=inferInstanceAs (Decidable (_∧_))
def dA(c:Cnt)(x:Rat):Int:=if au c.p x=0 then eV c x- 1 else eV c x
def oQ(c:Cnt)(x:Rat):Prop:=rD c x∧e8 c.p x
instance (c:Cnt) (x:Rat):Decidable (oQ c x):=inferInstanceAs (Decidable (_∧_))
def allV(c:Cnt):Int:=eV c (gd c.p)
def okAll(c:Cnt):Prop:=oO c.p∧aq c.p≠[]∧rD c (gd c.p)
instance (c:Cnt):Decidable (okAll c):=inferInstanceAs (Decidable (_∧_∧_))
theorem oh{c:Cnt}{x:Rat}(h:yO c): -274877906944≤eV c x∧eV c x≤274877906944:=by
 have h1:=uB (c.ch.map sgI) 0 0;have a:=uB (c.ch.map (sgE x)) 0 0;have b:=h.2.1;rw[←h.2.2] at h1;simp only[List.length_map] at h1 a;unfold eV;omega
abbrev plA(c:Cnt)(i:Int):AV:= .aptr [[kA c,i64 i]] 0 0
theorem c9(c:Cnt)(i:Int):Closed (plA c i):=a7 (ac (gj c) (ac (ag _) af))
def plC(c:Cnt)(i:Int)(x:Rat):Int:=if i< dA c x then -1 else if dA c x=i∧dA c x< eV c x then 0 else 1
theorem ET{c:Cnt}{x:Rat}(h:yO c): -274877906945≤dA c x∧dA c x≤274877906944:=by
 have:=oh (x:=x) h;unfold dA;split <;> omega
def biM(c:Cnt)(i:Int)(step:Rat):Nat→Rat→Rat→Option Rat
 |0,_,_=>none
 |f+1,lo,hi=>
  if sm lo∧sm hi∧sm (hi- lo) then
   if 0< ft (hi- lo) 1 then
    if qs (((lo+hi) / 2).floor:Rat)+qs step≤549755813888∧oQ c ((((lo+hi) / 2).floor:Rat) * step) then
     if 0≤plC c i ((((lo+hi) / 2).floor:Rat) * step) then biM c i step f (((lo+hi) / 2).floor:Rat) hi
     else biM c i step f lo (((lo+hi) / 2).floor:Rat)
    else none
   else some lo
  else none
def inK(a v:Rat)(out zeros:List Rat):Rat:=(v- au out a) / au zeros a
def okIn(a v:Rat)(out zeros:List Rat):Prop:=sm a∧sm v∧e8 out a∧e8 zeros a∧au zeros a≠0∧sm (inK a v out zeros)∧smL out∧smL zeros∧smL (aZ zeros (inK a v out zeros))∧ef zeros [-a,1]∧out.length≤274877906944
instance (a v:Rat) (out zeros:List Rat):Decidable (okIn a v out zeros):=inferInstanceAs (Decidable (_∧_∧_∧_∧_∧_∧_∧_∧_∧_∧_))
theorem k7(i:Nat):coP [] i=0:=rfl
theorem fW(a:Rat)(l:List Rat):coP (a::l) 0=a:=rfl
theorem fq(a:Rat)(l:List Rat)(i:Nat):coP (a::l) (i+1)=coP l i:=rfl
theorem cQ(l:List Rat)(i:Nat):coP (aq l) i=coP l i:=by
 induction l generalizing i with
 |nil=>rfl
 |cons a l c=>
  rw[dZ];split
  ·rename_i h
   have b:∀j,coP l j=0:=fun j=>by rw[←c j,h];rfl
   split
   ·rename_i ha
    cases i with
    |zero=>rw[ha];rfl
    |succ i=>rw[fq,b];rfl
   cases i with
   |zero=>rfl
   |succ i=>rw[fq,fq,b];rfl
  cases i with
  |zero=>rfl
  |succ i=>rw[fq,fq,c]
theorem coP_tab(n:Nat)(f:Nat→Rat)(i:Nat):coP (aS n f) i=if i< n then f i else 0:=by
 unfold coP aS;grind
theorem fJ(p q:List Rat)(i:Nat):coP (fa p q) i=coP p i+coP q i:=by
 unfold fa;rw[cQ,coP_tab];split;rfl
 ·rw[fH (by omega),fH (by omega)];grind
theorem cZ(p:List Rat)(k:Rat)(i:Nat):coP (aZ p k) i=coP p i* k:=by
 unfold aZ;rw[cQ,coP_tab];split;rfl
 ·rw[fH (by omega)];grind
theorem nk(p q:List Rat)(i:Nat):coP (dC p q) i=coP p i- coP q i:=by
 unfold dC;rw[fJ,cZ];grind
theorem qO(a:Rat)(i:Nat):coP (dR a) i=if i=0 then a else 0:=by
 unfold dR;rw[cQ];cases i <;> rfl
theorem gO(p:List Rat)(i:Nat):coP (aJ p) i=if i=0 then 0 else coP p (i- 1) / ((i:Nat):Int):=by
 unfold aJ;rw[cQ,coP_tab];split;rfl
 ·rw[if_neg (by omega),fH (by omega),Rat.div_def,Rat.zero_mul]
theorem sG{p q:List Rat}(h:∀i,coP p i=coP q i):aq p=aq q:=by
 induction p generalizing q with
 |nil=>
  induction q with
  |nil=>rfl
  |cons b q c=>
   have hb:b=0:=(h 0).symm;rw[dZ,←c fun i=>h (i+1),if_pos hb];rfl
 |cons a p c=>
  cases q with
  |nil=>
   have ha:a=0:=h 0;rw[dZ,c (q:=[]) fun i=>h (i+1),if_pos ha];rfl
  |cons b q=>
   have d:a=b:=h 0;rw[dZ,dZ,c (q:=q) fun i=>h (i+1),d]
theorem trim_iff{p q:List Rat}:aq p=aq q↔∀i,coP p i=coP q i:=
 ⟨fun h i=>by rw[←cQ p,h,cQ],sG⟩
theorem trim_nil_iff{p:List Rat}:aq p=[]↔∀i,coP p i=0:=
 ⟨fun h i=>by rw[←cQ p,h];rfl,fun h=>sG (q:=[]) h⟩
theorem dd(x:Rat):au [] x=0:=rfl
theorem bR(a:Rat)(l:List Rat)(x:Rat):au (a::l) x=au l x* x+a:=rfl
theorem tY{p:List Rat}(h:∀i,coP p i=0)(x:Rat):au p x=0:=by
 induction p with
 |nil=>rfl
 |cons a p b=>
  have ha:a=0:=h 0;rw[bR,b fun i=>h (i+1)];grind
theorem kq{p q:List Rat}(h:∀i,coP p i=coP q i)(x:Rat):au p x=au q x:=by
 induction p generalizing q with
 |nil=>exact(tY (fun i=>(h i).symm) x).symm
 |cons a p d=>
  cases q with
  |nil=>exact tY h x
  |cons b q=>
   have c:a=b:=h 0;rw[bR,bR,d (q:=q) fun i=>h (i+1),c]
theorem n5(p:List Rat)(x:Rat):au (aq p) x=au p x:=kq (cQ p) x
def uJ:List Rat→List Rat→List Rat
 |[],q=>q
 |p,[]=>p
 |a::p,b::q=>(a+b)::uJ p q
def pW(p:List Rat)(k:Rat):List Rat:=p.map (· * k)
def Ea:List Rat→List Rat→List Rat
 |[],_=>[]
 |a::p,q=>uJ (pW q a) (0::Ea p q)
theorem pI(p q:List Rat)(i:Nat):coP (uJ p q) i=coP p i+coP q i:=by
 induction p generalizing q i with
 |nil=>rw[uJ,k7];grind
 |cons a p c=>
  cases q with
  |nil=>rw[uJ,k7]; · grind
        grind
  |cons b q=>
   cases i with
   |zero=>rfl
   |succ i=>exact c q i
theorem k6(p:List Rat)(k:Rat)(i:Nat):coP (pW p k) i=coP p i* k:=by
 induction p generalizing i with
 |nil=>show(0:Rat)=0* k;grind
 |cons a p b=>
  cases i with
  |zero=>rfl
  |succ i=>exact b i
theorem uc(p q:List Rat)(x:Rat):au (uJ p q) x=au p x+au q x:=by
 induction p generalizing q with
 |nil=>rw[uJ,dd];grind
 |cons a p c=>
  cases q with
  |nil=>rw[uJ,dd]; · grind
        grind
  |cons b q=>rw[uJ,bR,bR,bR];grind
theorem py(p:List Rat)(k x:Rat):au (pW p k) x=au p x* k:=by
 induction p with
 |nil=>show(0:Rat)=0* k;grind
 |cons a p b=>show au (pW p k) x* x+a* k=_;rw[bR];grind
theorem ua(p q:List Rat)(x:Rat):au (Ea p q) x=au p x* au q x:=by
 induction p with
 |nil=>show(0:Rat)=0* _;grind
 |cons a p b=>rw[Ea,uc,py,bR,bR];grind
theorem io(p q:List Rat)(x:Rat):au (fa p q) x=au p x+au q x:=by
 rw[←uc];exact kq (fun i=>by rw[fJ,pI]) x
theorem dY(p:List Rat)(k x:Rat):au (aZ p k) x=au p x* k:=by
 rw[←py];exact kq (fun i=>by rw[cZ,k6]) x
theorem jb(p q:List Rat)(x:Rat):au (dC p q) x=au p x- au q x:=by
 unfold dC;rw[io,dY];grind
theorem zO(a x:Rat):au (dR a) x=a:=by
 rw[dR,n5];show 0* x+a=a;grind
def jw(p q:List Rat):Nat→Nat→Rat
 |0,_=>0
 |i+1,n=>jw p q i n+(if i≤n then coP p i* coP q (n- i) else 0)
theorem z7(o:List Rat)(a:Rat)(q:List Rat)(i:Nat)(h:∀k,k< q.length→i+k< o.length):∀k n,k≤q.length→coP (jo o a q i k) n=coP o n+(if i≤n∧n< i+k then a* coP q (n- i) else 0)
 |0,n,_=>by show coP o n=_;grind
 |k+1,n,hk=>by
  rw[jo,qP,yw];by_cases hn:n=i+k;subst hn;rw[if_pos ⟨rfl,h k (by omega)⟩,tc o a q i k (i+k) (by omega),if_pos (by omega),show i+k- i=k by omega];rw[z7 o a q i h k n (by omega)];grind
theorem z8(p q:List Rat)(n:Nat):∀i,i≤p.length→coP (eK p q i) n=jw p q i n
 |0,_=>by
  show coP (List.replicate _ 0) n=0;unfold coP;grind
 |i+1,hi=>by
  have a:=z8 p q n i (by omega);rw[eK,jw];split
  ·grind
  rw[z7 _ _ _ _ (fun k b=>by rw[lO];omega) _ _ (Nat.le_refl _),a];by_cases h1:i≤n;rw[if_pos h1];by_cases h2:n< i+q.length;rw[if_pos ⟨h1,h2⟩];rw[fH (p:=q) (by omega)];grind;grind
theorem uj(a:Rat)(p q:List Rat)(n:Nat):∀i,jw (a::p) q (i+1) n=a* coP q n+(match n with|0=>0|m+1=>jw p q i m)
 |0=>by
  show(0:Rat)+(if 0≤n then coP (a::p) 0* coP q (n- 0) else 0)=_;rw[fW];cases n <;> simp[jw,Rat.add_zero,Rat.zero_add]
 |i+1=>by
  rw[jw,uj a p q n i];cases n with
  |zero=>grind
  |succ m=>
   show a* coP q (m+1)+jw p q i m+_=a* coP q (m+1)+(jw p q i m+_);by_cases h:i≤m;rw[fq];grind;grind
theorem um(p q:List Rat)(n:Nat):coP (Ea p q) n=jw p q p.length n:=by
 induction p generalizing n with
 |nil=>rfl
 |cons a p b=>
  rw[Ea,pI,k6,List.length_cons,uj];cases n with
  |zero=>rw[fW];grind
  |succ m=>rw[fq];grind
theorem DE(p q:List Rat)(n:Nat):coP (aT p q) n=coP (Ea p q) n:=by
 unfold aT;split
 ·rename_i h
  rcases h with rfl|rfl
  rfl;rw[um]
  have:∀i,jw p [] i n=0:=by
   intro i
   induction i with
   |zero=>rfl
   |succ i a=>rw[jw,k7];grind
  rw[this];rfl
 rw[cQ,z8 _ _ _ _ (Nat.le_refl _),um]
theorem fE(p q:List Rat)(x:Rat):au (aT p q) x=au p x* au q x:=by
 rw[←ua];exact kq (DE p q) x
def DW:List Rat→Rat→List Rat
 |[],_=>[]
 |[_],_=>[]
 |_::b::l,r=>au (b::l) r::DW (b::l) r
theorem u7(p:List Rat)(r x:Rat):au p x=au (DW p r) x* (x- r)+au p r:=by
 induction p with
 |nil=>show(0:Rat)=0* _+0;grind
 |cons a l c=>
  cases l with
  |nil=>show 0* x+a=0* (x- r)+(0* r+a);grind
  |cons b l=>
   rw[DW,bR a,bR a,bR (au (b::l) r)];grind
theorem Fc(p:List Rat)(r:Rat):(DW p r).length=p.length- 1:=by
 induction p with
 |nil=>rfl
 |cons a l c=>
  cases l with
  |nil=>rfl
  |cons b l=>rw[DW,List.length_cons,c];simp
theorem tf:∀(n:Nat) (p xs:List Rat),p.length≤n→n≤xs.length→xs.Nodup→(∀x∈xs,au p x=0)→∀x,au p x=0
 |0,p,_,hp,_,_,_,x=>by
  have:p=[]:=List.length_eq_zero_iff.1 (by omega);rw[this];rfl
 |n+1,p,xs,hp,hx,hnd,hz,x=>by
  cases xs with
  |nil=>grind
  |cons r xs=>
   rw[List.nodup_cons] at hnd;have c:=hz r (List.mem_cons_self ..)
   have a:=tf n (DW p r) xs (by rw[Fc];omega) (by grind) hnd.2 fun y b=>by
    have h1:=u7 p r y;grind
   rw[u7 p r x];grind
theorem xG{p:List Rat}(h:∀x,au p x=0):∀i,coP p i=0:=by
 induction p with
 |nil=>intro i;rfl
 |cons a p f=>
  have ha:a=0:=by
   have:=h 0;rw[bR] at this;grind
  have hp:∀x,au p x=0:=by
   -- at all places but 0,so at all
   refine tf p.length p ((List.range p.length).map fun i=>(((i+1:Nat):Int):Rat)) (Nat.le_refl _) (by simp) ?_ ?_;refine List.Pairwise.map _ (fun i j c=>?_) List.nodup_range;intro e;have:=Rat.intCast_inj.1 e;omega;intro x g;obtain⟨i,_,rfl⟩:=List.mem_map.1 g;have h1:=h (((i+1:Nat):Int):Rat);rw[bR] at h1;have d:au p (((i+1:Nat):Int):Rat) * (((i+1:Nat):Int):Rat)=0:=by grind
   rcases Rat.mul_eq_zero.1 d with b|b
   exact b;have:=Rat.intCast_inj.1 (b.trans Rat.intCast_zero.symm);omega
  intro i;cases i with
  |zero=>exact ha
  |succ i=>exact f hp i
theorem kp{p q:List Rat}(h:∀x,au p x=au q x):aq p=aq q:=by
 refine sG fun i=>?_;have:=xG (p:=dC p q) (fun x=>by rw[jb];grind) i;rw[nk] at this;grind
theorem D9(p q:List Rat)(hp:p≠[]):(aT p q).length≤p.length+q.length- 1:=by
 unfold aT;split;simp;have:=bU (eK p q p.length);rwa[lO] at this
theorem gi{p:List Rat}{k:Rat}{s t:Nat}(hp:bdL p s)(hs:1≤s)(hk:qs k≤t):bdL (aZ p k) (s+t):=
 k8 fun i=>by
  rw[cZ];have h1:=eu (coP p i) k;have a:=dN hp hs i;omega
theorem sw{p q:List Rat}{s t:Nat}(hp:bdL p s)(hq:bdL q t)(hs:1≤s)(ht:1≤t):bdL (fa p q) (s+t+1):=
 k8 fun i=>by
  rw[fJ];have h1:=kS (coP p i) (coP q i);have b:=dN hp hs i;have a:=dN hq ht i;omega
def dvE:List Rat→Rat→Rat
 |[],_=>0
 |_::l,x=>au l x+dvE l x* x
theorem G5(a:Rat)(l:List Rat)(x:Rat):dvE (a::l) x=au l x+dvE l x* x:=rfl
theorem BT(q:List Rat)(x:Rat)(m:Nat)(h:m< q.length):au (q.take (m+1)) x=au (q.take m) x+coP q m* x^ m:=by
 induction q generalizing m with
 |nil=>cases h
 |cons a q b=>
  cases m with
  |zero=>rw[List.take_succ_cons,Rat.pow_zero];show 0* x+a=0+a* 1;grind
  |succ m=>rw[List.take_succ_cons,List.take_succ_cons,bR,bR,fq];grind
theorem rj(x:Rat)(n:Nat):∀m,x^ (n+m)=x^ n* x^ m
 :=by grind
theorem ws{p:List Rat}{n:Nat}(h:∀j,n≤j→coP p j=0):(aq p).length≤n:=by
 apply Nat.le_of_not_lt;intro c;have h1:=dT (l:=p) (n:=(aq p).length- 1) (by omega);have b:aq p≠[]:=fun e=>by grind
 have a:=h ((aq p).length- 1) (by omega);rw[←cQ] at a;unfold coP at a;rw[List.getD_eq_getElem?_getD,h1] at a;exact gG b a
section
variable (p q r:List Rat)(a b:Rat)
end
def nz(p:List Rat):Prop:=aq p≠[]
def dg(p:List Rat):Nat:=(aq p).length- 1
def Eqv(p q:List Rat):Prop:=∀x,au p x=au q x
theorem eqv_trim{p q:List Rat}:Eqv p q↔aq p=aq q:=
 ⟨kp,fun h x=>by rw[←n5 p,h,n5]⟩
def isDeg(p:List Rat)(n:Nat):Prop:=coP p n≠0∧∀i,n< i→coP p i=0
theorem lS{p:List Rat}(h:nz p):isDeg p (dg p)∧coP p (dg p)=aR p:=by
 have hl:=List.length_pos_iff.2 h;have h1:=dT (l:=p) (n:=dg p) (by unfold dg;omega)
 have a:coP p (dg p)=aR p:=by
  rw[←cQ];unfold coP;grind
 refine⟨⟨by rw[a];exact gG h,fun i b=>?_⟩,a⟩;rw[←cQ];exact fH (by unfold dg at b;omega)
theorem FY{p:List Rat}{n:Nat}(h:isDeg p n):nz p∧dg p=n∧aR p=coP p n:=by
 have b:nz p:=fun e=>h.1 (trim_nil_iff.1 e n);obtain⟨h1,c⟩:=lS b
 have e:dg p=n:=by
  rcases Nat.lt_trichotomy (dg p) n with a|a|a
  exact absurd (h1.2 n a) h.1;exact a;exact absurd (h.2 _ a) h1.1
 grind




theorem degP_dg{p:List Rat}(h:nz p):bv p=(dg p:Int):=by
 have:=List.length_pos_iff.2 h;unfold bv dg;omega
theorem degP_nil{p:List Rat}:bv p< 0↔¬nz p:=by
 unfold bv nz;constructor;intro h e;have:=List.length_pos_iff.2 e;omega;intro h;have:aq p=[]:=Decidable.byContradiction h;rw[this];decide
theorem rY{p:List Rat}{t:Nat}(h:bdL p t)(ht:1≤t):qs (aR p)≤t:=by
 by_cases h0:aq p=[];rw[qp h0];exact Nat.le_trans (by decide:qs 0≤1) ht;have hl:=List.length_pos_iff.2 h0;exact h _ (cX (List.mem_of_getElem? (dT (n:=(aq p).length- 1) (by omega))))
def lag(v:List Rat):Nat→Rat
 |0=>0
 |m+1=>coP v m
theorem He(v:List Rat)(c:Rat)(n:Nat):coP (aT v [c,1]) n=coP v n* c+lag v n:=by
 have e:aq (aT v [c,1])=aq (aT [c,1] v):=kp fun x=>by rw[fE,fE];grind
 rw[trim_iff.1 e n,DE];show coP (uJ (pW v c) (0::uJ (pW v 1) (0::[]))) n=_;rw[pI,k6];cases n with
 |zero=>rw[fW];rfl
 |succ m=>
  rw[fq,pI,k6];have:coP [(0:Rat)] m=0:=by cases m <;> rfl
  rw[this];show _+(coP v m* 1+0)=_+coP v m;grind
theorem ny(v:List Rat)(c:Rat):(aT v [c,1]).length≤v.length+1:=by
 by_cases h:v=[];subst h;unfold aT;simp;have:=D9 v [c,1] h;simpa using this
theorem jR(p:List Rat):(aJ p).length≤p.length+1:=by
 have:=bU (aS (p.length+1) fun i=>if i=0 then 0 else coP p (i- 1) / ((i:Nat):Int));simp at this;unfold aJ;omega
theorem yi(p q:List Rat):(dC p q).length≤max p.length q.length:=by
 have h1:=gR p (aZ q (-1));have a:=cy q (-1);unfold dC;omega
theorem uF{l:List Rat}{a b:Nat}(h:bdL l a)(hab:a≤b):bdL l b:=fun q c=>Nat.le_trans (h q c) hab

theorem bd_co'{p:List Rat}{s:Nat}(h:bdL p s)(hs:1≤s):∀i,qs (coP p i)≤s:=fun i=>dN h hs i
theorem bdL_neg{p:List Rat}{s:Nat}(h:bdL p s)(hs:1≤s):bdL (aZ p (-1)) s:=k8 fun i=>by
 rw[cZ,show coP p i* (-1)= -coP p i by grind,iN];exact bd_co' h hs i
theorem Aj{p q:List Rat}{s t:Nat}(hp:bdL p s)(hq:bdL q t)(hs:1≤s)(ht:1≤t):bdL (fa p q) (s+t+1):=k8 fun i=>by
 rw[fJ];have:=kS (coP p i) (coP q i);have:=bd_co' hp hs i;have:=bd_co' hq ht i;omega
theorem Hu{p q:List Rat}{s t:Nat}(hp:bdL p s)(hq:bdL q t)(hs:1≤s)(ht:1≤t):bdL (dC p q) (s+t+1):=Aj hp (bdL_neg hq ht) hs ht
theorem Hs{p:List Rat}{s:Nat}(h:bdL p s):bdL (aq p) s:=fun q a=>h q (cX a)
def shP(i:Nat)(v:List Rat):List Rat:=List.replicate i 0++v
theorem nM(i:Nat)(v:List Rat):(shP i v).length=i+v.length:=by simp[shP]
theorem yo(i:Nat)(v:List Rat):shP (i+1) v=0::shP i v:=by simp[shP,List.replicate_succ]
theorem zM(v:List Rat)(x:Rat):∀i,au (shP i v) x=au v x* x^ i
 |0=>by simp[shP]
 |i+1=>by
  rw[yo,bR,zM v x i,Rat.pow_succ];grind
theorem qN(v:List Rat)(i n:Nat):coP (shP i v) n=if n< i then 0 else coP v (n- i):=by
 induction i generalizing n with
 |zero=>simp[shP]
 |succ i a=>
  rw[yo];cases n with
  |zero=>rw[fW,if_pos (by omega)]
  |succ n=>
   rw[fq,a,Nat.add_sub_add_right];by_cases h:n< i;rw[if_pos h,if_pos (by omega)];rw[if_neg h,if_neg (by omega)]
def mR(p q:List Rat):Nat→List Rat
 |0=>[]
 |n+1=>fa (mR p q n) (shP n (aZ p (coP q n)))
theorem zN(p q:List Rat)(x:Rat):∀n,n≤q.length→au (mR p q n) x=au p x* au (q.take n) x
 |0,_=>by simp[mR,dd]
 |n+1,h=>by
  rw[mR,io,zN p q x n (by omega),zM,dY,BT q x n (by omega)];grind
theorem trim_mR(p q:List Rat):∀n,aq (mR p q n)=mR p q n
 |0=>rfl
 |n+1=>eP _
theorem DV(p q:List Rat):aq (aT p q)=aT p q:=by
 unfold aT;split;rfl;exact eP _
theorem F3(p q:List Rat):mR p q q.length=aT p q:=by
 rw[←trim_mR,←DV];refine kp fun x=>?_;rw[zN p q x _ (Nat.le_refl _),List.take_length,fE]
theorem rW{p:List Rat}{a:Rat}{d:Nat}:∀n,n≤d→mR p (shP d [a]) n=[]
 |0,_=>rfl
 |n+1,h=>by
  rw[mR,rW n (by omega)];refine trim_nil_iff.2 fun i=>?_;have h1:coP (shP d [a]) n=0:=by rw[qN,if_pos (by omega)]
  have b:coP (aS (max ([]:List Rat).length (shP n (aZ p (coP (shP d [a]) n))).length) fun i=>coP [] i+coP (shP n (aZ p (coP (shP d [a]) n))) i) i=coP [] i+coP (shP n (aZ p (coP (shP d [a]) n))) i:=by
   rw[←cQ];exact fJ _ _ i
  rw[b,k7,qN,cZ,h1];split <;> grind
theorem Bf{p:List Rat}{a:Rat}{d s:Nat}(hp:bdL p s)(hs:1≤s)(n:Nat)(hn:n≤d+1):bdL (mR p (shP d [a]) n) (s+qs a+2):=by
 by_cases h:n≤d;rw[rW n h];exact fun _ h=>by cases h
 have:n=d+1:=by omega
 subst this;refine k8 fun i=>?_;rw[mR,fJ,rW d (Nat.le_refl _),k7,Rat.zero_add,qN];split;have:qs 0=1:=by decide
 omega;rw[cZ,qN,if_neg (by omega),Nat.sub_self,fW];have:=eu (coP p (i- d)) a;have:=bd_co' hp hs (i- d);omega
theorem Hd(d:List Rat)(a:Rat)(k j:Nat):coP (aT d (shP k [a])) j=if j< k then 0 else coP d (j- k) * a:=by
 have e:mR d (shP k [a]) (shP k [a]).length=aT d (shP k [a]):=F3 _ _;rw[←e,show(shP k [a]).length=k+1 by rw[nM];rfl,mR,fJ,rW k (Nat.le_refl _),k7,Rat.zero_add,qN,cZ,qN,if_neg (Nat.lt_irrefl k),Nat.sub_self,fW]
theorem yY{v:List Rat}{n:Nat}(h:aq v=v)(hn:v.length=n+1):coP v n=aR v:=by
 have:=dT (l:=v) (n:=n) (by rw[h];exact hn);rw[h,b9 (by omega)] at this;exact Option.some.inj this
theorem Fg{v d:List Rat}(hv:aq v=v)(hd:aq d=d)(hd0:d≠[])(hl:d.length≤v.length):(dC v (aT d (shP (v.length- d.length) [aR v/ aR d]))).length< v.length:=by
 have c:=List.length_pos_iff.2 hd0;obtain⟨m,f⟩:∃m,d.length=m+1:=⟨d.length- 1,by omega⟩;obtain⟨n,g⟩:∃n,v.length=n+1:=⟨v.length- 1,by omega⟩;have b:aR d≠0:=gG (by rw[hd];exact hd0)
 have a:∀j,n≤j→coP (dC v (aT d (shP (v.length- d.length) [aR v/ aR d]))) j=0:=fun j i=>by
  rw[nk,Hd,if_neg (by omega)];by_cases h:j=n;subst h;rw[yY hv g,show j- (v.length- d.length)=m by omega,yY hd f];grind;rw[fH (p:=v) (by omega),fH (p:=d) (by omega)];grind
 have h1:=ws a;have e:aq (dC v (aT d (shP (v.length- d.length) [aR v/ aR d])))=dC v (aT d (shP (v.length- d.length) [aR v/ aR d])):=eP _;rw[e] at h1;omega
theorem DU(p q:List Rat):aq (dC p q)=dC p q:=eP _
theorem step_bd{v d:List Rat}{b t:Nat}(hv:bdL v b)(hd:bdL d t)(hb:1≤b)(ht:1≤t)(hd0:d≠[])(k:Nat):qs (aR v/ aR d)≤b+t∧bdL (aT d (shP k [aR v/ aR d])) (2* t+b+2)∧bdL (dC v (aT d (shP k [aR v/ aR d]))) (2* b+2* t+3):=by
 have h1:=rY hv hb;have f:=rY hd ht;have e:=gY (aR v) (aR d)
 have c:bdL (aT d (shP k [aR v/ aR d])) (2* t+b+2):=by
  have:=Bf (a:=aR v/ aR d) (d:=k) hd ht (k+1) (Nat.le_refl _);rw[show k+1=(shP k [aR v/ aR d]).length by rw[nM];rfl,F3] at this;exact uF this (by omega)
 exact⟨by omega,c,uF (Hu hv c hb (by omega)) (by omega)⟩
theorem bdL_sh{v:List Rat}{b:Nat}(h:bdL v b)(hb:1≤b)(k:Nat):bdL (shP k v) b:=fun q c=>by
 rcases List.mem_append.1 c with a|a
 rw[List.eq_of_mem_replicate a];have:qs 0=1:=by decide
 omega;exact h q a
def ab(x:Rat):Rat:=if x< 0 then -x else x
theorem gS(x:Rat):0≤ab x:=by unfold ab;grind
theorem ab_le{x c:Rat}:ab x≤c↔ -c≤x∧x≤c:=by unfold ab;grind
theorem qW(x y:Rat):ab (x+y)≤ab x+ab y:=by unfold ab;grind
theorem HL(x:Rat):ab (-x)=ab x:=by unfold ab;grind
theorem iR(x y:Rat):ab (x* y)=ab x* ab y:=by
 have c:∀a b:Rat,0≤a→0≤b→ab (a* b)=a* b:=fun a b ha hb=>by
  have:=Rat.mul_nonneg ha hb;unfold ab;grind
 by_cases hx:x< 0;by_cases hy:y< 0;have:=c (-x) (-y) (by grind) (by grind);rw[show x* y= -x* -y by grind,this];unfold ab;rw[if_pos hx,if_pos hy];have:=c (-x) y (by grind) (by grind);rw[show x* y= -(-x* y) by grind,HL,this];unfold ab;rw[if_pos hx,if_neg hy];by_cases hy:y< 0;have:=c x (-y) (by grind) (by grind);rw[show x* y= -(x* -y) by grind,HL,this];unfold ab;rw[if_neg hx,if_pos hy];have:=c x y (by grind) (by grind);rw[this];unfold ab;grind
theorem fS{a b c d:Rat}(h1:a≤b)(h2:c≤d)(h3:0≤c)(h4:0≤b):a* c≤b* d:=by
 have e1:=Rat.mul_le_mul_of_nonneg_right h1 h3;have e2:=Rat.mul_le_mul_of_nonneg_left h2 h4;grind
def bV(R:Rat):List Rat→Rat
 |[]=>0
 |a::l=>bV R l* R+ab a
theorem nH{R:Rat}(hR:0≤R):∀l,0≤bV R l
 |[]=>by simp[bV]
 |a::l=>by
  have h1:=Rat.mul_nonneg (nH hR l) hR;have b:=gS a;rw[bV];grind
theorem gI{R x:Rat}(hR:0≤R)(hx:ab x≤R):∀l,ab (au l x)≤bV R l
 |[]=>by rw[dd,bV];decide
 |a::l=>by
  have h1:=gI hR hx l;have c:=fS h1 hx (gS x) (nH hR l);have b:=qW (au l x* x) a;rw[iR] at b;rw[bR,bV];grind
def bL(R:Rat):List Rat→Rat
 |[]=>0
 |_::l=>bL R l* R+bV R l
theorem An{R:Rat}(hR:0≤R):∀l,0≤bL R l
 |[]=>by simp[bL]
 |a::l=>by
  have h1:=Rat.mul_nonneg (An hR l) hR;have b:=nH hR l;rw[bL];grind
theorem nj{R x y:Rat}(hR:0≤R)(hx:ab x≤R)(hy:ab y≤R):∀l,ab (au l y- au l x)≤bL R l* ab (y- x)
 |[]=>by
  rw[dd,dd,bL,Rat.zero_mul];decide+kernel
 |a::l=>by
  have h1:=nj hR hx hy l;have d:=gI hR hx l;have e:au (a::l) y- au (a::l) x=(au l y- au l x) * y+au l x* (y- x):=by rw[bR,bR];grind
  have c:=qW ((au l y- au l x) * y) (au l x* (y- x));rw[iR,iR] at c;have b:=gS (y- x);have g:=fS h1 hy (gS y) (Rat.mul_nonneg (An hR l) b);have f:=Rat.mul_le_mul_of_nonneg_right d b;rw[bL];grind
def bT(R:Rat):List Rat→Rat
 |[]=>0
 |_::l=>bT R l* R+bL R l
theorem DK{R:Rat}(hR:0≤R):∀l,0≤bT R l
 |[]=>by simp[bT]
 |a::l=>by
  have h1:=Rat.mul_nonneg (DK hR l) hR;have b:=An hR l;rw[bT];grind
theorem qG{R x y:Rat}(hR:0≤R)(hx:ab x≤R)(hy:ab y≤R):∀l,ab (au l y- au l x- (y- x) * dvE l x)≤bT R l* (ab (y- x) * ab (y- x))
 |[]=>by
  rw[dd,dd,bT,show dvE [] x=0 from rfl,Rat.zero_mul,Rat.mul_zero];decide+kernel
 |a::l=>by
  have h1:=qG hR hx hy l;have d:=nj hR hx hy l;have e:au (a::l) y- au (a::l) x- (y- x) * dvE (a::l) x=(au l y- au l x- (y- x) * dvE l x) * x+(au l y- au l x) * (y- x):=by rw[bR,bR,G5];grind
  have c:=qW ((au l y- au l x- (y- x) * dvE l x) * x) ((au l y- au l x) * (y- x));rw[iR,iR] at c;have b:=gS (y- x);have g:=fS h1 hx (gS x) (Rat.mul_nonneg (DK hR l) (Rat.mul_nonneg b b));have f:=Rat.mul_le_mul_of_nonneg_right d b;rw[e,bT];grind
inductive Gsn:Int→List Int→List Int→Prop
 |nil {t:Int}:Gsn t [] []
 |solid {t s:Int} {l l':List Int}:s≠0→Gsn s l l'→Gsn t (s::l) (s::l')
 |weak {t x y:Int} {l l':List Int}:(x=0∨x=t∨x= -t)→(y=0∨y=t∨y= -t)→Gsn (-t) l l'→Gsn t (x:: -t::l) (y:: -t::l')
theorem nu:∀(l:List Int) (n t:Int),chL l n t=n+chL l 0 t
 |[],n,t=>by simp[chL]
 |s::l,n,t=>by
  unfold chL;by_cases hs:s≠0;rw[if_pos hs,if_pos hs,nu l (if s= -t then n+1 else n),nu l (if s= -t then 0+1 else 0)];split <;> omega;rw[if_neg hs,if_neg hs];exact nu l n t
theorem Ab{t x:Int}(ht:t≠0)(hx:x=0∨x=t∨x= -t)(l:List Int)(n:Int):chL (x:: -t::l) n t=chL l (n+1) (-t):=by
 rcases hx with rfl|rfl|rfl
 rw[chL,if_neg (by simp),chL,if_pos (by omega),if_pos rfl];rw[chL,if_pos ht,if_neg (by omega),chL,if_pos (by omega),if_pos rfl];rw[chL,if_pos (by omega),if_pos rfl,chL,if_pos (by omega),if_neg (by omega)]
theorem uA{t:Int}{l l':List Int}(h:Gsn t l l'):t≠0→∀n,chL l n t=chL l' n t:=by
 induction h with
 |nil=>exact fun _ _=>rfl
 |solid hs _ a=>
  intro ht n;rw[chL,if_pos hs,chL,if_pos hs];exact a hs _
 |weak c b _ a=>
  intro ht n;rw[Ab ht c,Ab ht b];exact a (by omega) _
theorem uy{s:Int}{l l':List Int}(hs:s≠0)(h:Gsn s l l'):chL (s::l) 0 0=chL (s::l') 0 0:=by
 rw[chL,if_pos hs,chL,if_pos hs];exact uA h hs _
theorem Ad{s s' t:Int}{l l':List Int}(ht:t=1∨t= -1)(hs: -1≤s∧s≤1)(hs': -1≤s'∧s'≤1)(hm:t* s≤t* s')(h:Gsn t l l'):chL (s'::t::l') 0 0≤chL (s::t::l) 0 0:=by
 have a:t≠0:=by omega
 have b:∀(u:Int) (k:List Int),-1≤u∧u≤1→chL (u::t::k) 0 0=(if u= -t then 1 else 0)+chL k 0 t:=fun u k c=>by
  by_cases h0:u=0;subst h0;rw[chL,if_neg (by simp),chL,if_pos a,if_neg (by omega),if_neg (by omega)];omega;rw[chL,if_pos h0,if_neg (by omega),chL,if_pos a,nu];by_cases h1:u= -t;rw[if_pos (by omega),if_pos h1];omega;rw[if_neg (by omega),if_neg h1]
 rw[b s l hs,b s' l' hs',uA h a 0];rcases ht with rfl|rfl <;> split <;> split <;> omega
theorem num_pos{q:Rat}:0< q.num↔0< q:=by
 have b:0≤q.num↔0≤q:=Rat.num_nonneg;have a:q.num=0↔q=0:=Rat.num_eq_zero;grind
theorem kR{q:List Rat}{x:Rat}(h:0< au q x):sgE x q=1:=by
 have:=sgZ_num_gt.2 h;have:=mQ (au q x).num;unfold sgE;omega
theorem ow{q:List Rat}{x:Rat}(h:au q x< 0):sgE x q= -1:=by
 have:=sgZ_num_lt.2 h;have:=mQ (au q x).num;unfold sgE;omega
theorem ov{q:List Rat}{x:Rat}(h:au q x=0):sgE x q=0:=sgZ_num_eq.2 h
theorem fg(x:Rat)(q:List Rat): -1≤sgE x q∧sgE x q≤1:=mQ _
theorem cP(x:Rat)(q:List Rat):(sgE x q=1∧0< au q x)∨(sgE x q= -1∧au q x< 0)∨(sgE x q=0∧au q x=0):=by
 by_cases h:0< au q x;exact .inl ⟨kR h,h⟩;by_cases h':au q x< 0;exact .inr (.inl ⟨ow h',h'⟩);have e:au q x=0:=by grind
 exact .inr (.inr ⟨ov e,e⟩)
theorem oz{q:List Rat}{x y:Rat}(h:au q x≤au q y):sgE x q≤sgE y q:=by
 rcases cP x q with⟨a,b⟩|⟨a,b⟩|⟨a,b⟩
 rw[a,kR (by grind)];decide;have:=fg y q;omega;by_cases h0:0< au q y;rw[a,kR h0];decide;rw[a,ov (by grind)];decide
theorem part(e:Rat){d:Rat}(he:0< e)(hd:0< d):∃h:Rat,0< h∧h* d=e:=by
 refine⟨e/ d,?_,Rat.div_mul_cancel (by grind)⟩;have e1:e/ d* d=e:=Rat.div_mul_cancel (by grind);by_cases h:0< e/ d;exact h;have a:e/ d* d≤0* d:=Rat.mul_le_mul_of_nonneg_right (by grind) (by grind);grind
theorem less(a b:Rat)(ha:0< a)(hb:0< b):∃h:Rat,0< h∧h≤a∧h≤b:=by grind
theorem keep(u:List Rat){R e:Rat}(hR:0≤R)(he:0< e):∃h:Rat,0< h∧∀x y:Rat,ab x≤R→ab y≤R→ab (y- x)≤h→e≤ab (au u x)→sgE y u=sgE x u∧sgE x u≠0:=by
 have g:=An hR u;obtain⟨h,j,h1⟩:=part e (d:=2* (bL R u+1)) he (by grind);refine⟨h,j,fun x y l k i ha=>?_⟩;have n:=nj hR l k u;have o:=Rat.mul_le_mul_of_nonneg_left i g;have m:=ab_le (x:=au u y- au u x) (c:=ab (au u y- au u x))|>.1 (by grind);rcases cP x u with⟨a,b⟩|⟨a,b⟩|⟨a,b⟩
 have f:ab (au u x)=au u x:=by unfold ab;grind
 rw[a,kR (by grind)];decide;have f:ab (au u x)= -au u x:=by unfold ab;grind
 rw[a,ow (by grind)];decide;have f:ab (au u x)=0:=by rw[b];decide
 grind
inductive Ch:List Rat→List (List Rat)→Prop
 |one {u:List Rat} {c:Rat}:c≠0→(∀x,au u x=c)→Ch u []
 |pair {u v:List Rat}:Ch v []→Ch u [v]
 |step {u v w:List Rat} {L:List (List Rat)} {a c:Rat} {q:List Rat}:0< a→0< c→(∀x,a* au u x+c* au w x=au q x* au v x)→Ch v (w::L)→Ch u (v::w::L)
def Cl(u:List Rat)(L:List (List Rat)):Prop:=∀R e:Rat,0≤R→0< e→∃h:Rat,0< h∧∀x y:Rat,ab x≤R→ab y≤R→ab (y- x)≤h→e≤ab (au u x)→
 sgE y u=sgE x u∧sgE x u≠0∧Gsn (sgE x u) (L.map (sgE x)) (L.map (sgE y))
theorem Ch.const{v:List Rat}(h:Ch v []):∃c:Rat,c≠0∧∀x,au v x=c:=by
 cases h with
 |one hc h=>simp_all
theorem Ch.sg{v:List Rat}(h:Ch v [])(x y:Rat):sgE y v=sgE x v∧sgE x v≠0:=by
 obtain⟨c,hc,h⟩:=h.const;have e:sgE y v=sgE x v:=by unfold sgE;grind
 rcases cP x v with⟨a,b⟩|⟨a,b⟩|⟨a,b⟩
 omega;omega;grind
theorem Ch.cl{u:List Rat}{L:List (List Rat)}(H:Ch u L):Cl u L∧∀v L',L=v::L'→Cl v L':=by
 induction H with
 | @one u c hc k=>
  refine⟨fun R e f o=>?_,fun _ _ h=>by cases h⟩;obtain⟨h,r,h1⟩:=keep u f o;exact⟨h,r,fun x y b i n ha=>⟨(h1 x y b i n ha).1,(h1 x y b i n ha).2,.nil⟩⟩
 | @pair u v hv ih=>
  refine⟨fun R e f o=>?_,fun _ _ h=>by grind⟩;obtain⟨h,r,h1⟩:=keep u f o;refine⟨h,r,fun x y b i n ha=>⟨(h1 x y b i n ha).1,(h1 x y b i n ha).2,?_⟩⟩;simp only[List.map_cons,List.map_nil];rw[(hv.sg x y).1];exact .solid (hv.sg x y).2 .nil
 | @step u v w L a c q ha hc hrel hv ih=>
  refine⟨fun R e f o=>?_,fun _ _ h=>by cases h;exact ih.1⟩;have hQ:=nH f q;have t:=Rat.mul_pos ha o;obtain⟨e1,B,E⟩:=part (a* e) (d:=2* (bV R q+1)) t (by grind);obtain⟨e2,A,D⟩:=part (a* e) (d:=2* c) t (by grind);obtain⟨r,O,N⟩:=keep u f o;obtain⟨h1,p1,K⟩:=ih.1 R e1 f B;obtain⟨Q,p2,F⟩:=ih.2 w L rfl R e2 f A;obtain⟨G,J,T,U⟩:=less r h1 O p1;obtain⟨h,p,l,m⟩:=less G Q J p2;refine⟨h,p,fun x y b i n k=>?_⟩;obtain⟨s1,s2⟩:=N x y b i (by grind) k;refine⟨s1,s2,?_⟩;by_cases hvx:e1≤ab (au v x);obtain⟨t1,t2,z⟩:=K x y b i (by grind) hvx;simp only[List.map_cons] at z⊢;rw[t1];exact .solid t2 z;have b1:=fS (gI f b q) (show ab (au v x)≤e1 by grind) (gS _) hQ;rw[←iR,←hrel x] at b1;have b2:=ab_le.1 b1;have V:bV R q* e1+e1=a* e/ 2:=by grind
  have j:sgE x w= -sgE x u∧e2≤ab (au w x):=by
   rcases cP x u with⟨s,C⟩|⟨s,C⟩|⟨s,C⟩
   have g3:ab (au u x)=au u x:=by unfold ab;rw[if_neg (by grind)]
   rw[g3] at k;have M:=Rat.mul_le_mul_of_nonneg_left k (show 0≤a by grind)
   have S:au w x≤ -e2:=by
    by_cases g:au w x≤ -e2;exact g;have:=Rat.mul_pos hc (show 0< au w x+e2 by grind);grind
   refine⟨by rw[s,ow (by grind)],?_⟩;unfold ab;rw[if_pos (by grind)];grind;have g3:ab (au u x)= -au u x:=by unfold ab;rw[if_pos C]
   rw[g3] at k;have M:=Rat.mul_le_mul_of_nonneg_left k (show 0≤a by grind)
   have S:e2≤au w x:=by
    by_cases g:e2≤au w x;exact g;have:=Rat.mul_pos hc (show 0< e2- au w x by grind);grind
   refine⟨by rw[s,kR (by grind)];decide,?_⟩;unfold ab;rw[if_neg (by grind)];grind;exact absurd s s2
  obtain⟨t1,t2,z⟩:=F x y b i (by grind) j.2;simp only[List.map_cons];rw[t1,j.1];rw[j.1] at z;have c1:=fg x u;have W:=fg x v;have X:=fg y v;exact .weak (by omega) (by omega) z
theorem Ch.bez{u:List Rat}{M:List (List Rat)}(H:Ch u M):∀v L,M=v::L→∃a b:List Rat,∀x,au a x* au u x+au b x* au v x=1:=by
 induction H with
 |one hc g=>grind
 | @pair u v hv ih=>
  intro e L h;cases h;obtain⟨c,hc,h⟩:=hv.const;refine⟨[],[1/ c],fun x=>?_⟩;rw[bR,dd];grind
 | @step u v w L a c q ha hc hrel hv ih=>
  intro e i h;obtain⟨f,d,h⟩:=ih w L rfl;refine⟨aZ d (-(a/ c)),fa f (aZ (aT d q) (1/ c)),fun x=>?_⟩;rw[dY,io,dY,fE];grind
theorem arch(c:Rat){h:Rat}(hh:0< h):∃n:Nat,c≤((n:Int):Rat) * h:=by
 by_cases hc:c≤0;exact⟨0,by grind⟩;obtain⟨k,a,e⟩:=part c (d:=h) (by grind) hh
 have h1:k≤((k.num.natAbs:Int):Rat):=by
  have g:0< k.num:=num_pos.2 a;rw[Rat.le_iff];show k.num* 1≤(k.num.natAbs:Int) * (k.den:Int);have f:=Int.mul_le_mul_of_nonneg_left (show(1:Int)≤(k.den:Int) by have:=k.den_pos;omega) (show 0≤k.num by omega);grind
 have b:=Rat.mul_le_mul_of_nonneg_right h1 (show 0≤h by grind);grind
theorem grid {f:Rat→Int} (r:Int→Int→Prop) (hr:∀a,r a a) (ht:∀a b c,r a b→r b c→r a c) {lo hi h:Rat} (hh:0< h)
    (hs:∀x y,lo≤x→x≤y→y≤hi→y- x≤h→r (f x) (f y)):∀(n:Nat) (x y:Rat),lo≤x→x≤y→y≤hi→y- x≤((n:Int):Rat) * h→r (f x) (f y)
 |0,x,y,h1,h2,h3,h4=>by grind
 |n+1,x,y,h1,h2,h3,h4=>by
  by_cases hd:y- x≤h;exact hs x y h1 h2 h3 hd;exact ht _ _ _ (hs x (x+h) h1 (by grind) (by grind) (by grind)) (grid r hr ht hh hs n (x+h) y (by grind) (by grind) h3 ((by grind)))
theorem way {f:Rat→Int} (r:Int→Int→Prop) (hr:∀a,r a a) (ht:∀a b c,r a b→r b c→r a c) {x y h:Rat} (hh:0< h) (hxy:x≤y)
    (hs:∀u v,x≤u→u≤v→v≤y→v- u≤h→r (f u) (f v)):r (f x) (f y):=by
 obtain⟨n,d⟩:=arch (y- x) hh;exact grid r hr ht hh hs n x y (by grind) hxy (by grind) d
def chV(l:List (List Rat))(x:Rat):Int:=chL (l.map (sgE x)) 0 0
theorem rv{x y u:Rat}(h1:x≤u)(h2:u≤y):ab u≤ab x+ab y:=by
 have a:=ab_le (x:=x) (c:=ab x)|>.1 (by grind);have b:=ab_le (x:=y) (c:=ab y)|>.1 (by grind);exact ab_le.2 ⟨by grind,by grind⟩
theorem HJ{u v h:Rat}(h1:u≤v)(h2:v- u≤h):ab (v- u)≤h:=by
 unfold ab;grind
theorem Ch.same{u:List Rat}{L:List (List Rat)}(H:Ch u L){e x y:Rat}(he:0< e)(hxy:x≤y)(ha:∀z,x≤z→z≤y→e≤ab (au u z)):chV (u::L) x=chV (u::L) y:=by
 obtain⟨h,i,h1⟩:=H.cl.1 (ab x+ab y) e (by have:=gS x;have:=gS y;grind) he;refine way (f:=chV (u::L)) (· = ·) (fun _=>rfl) (fun _ _ _=>Eq.trans) i hxy fun z w a b c d=>?_;obtain⟨s1,s2,g⟩:=h1 z w (rv a (by grind)) (rv (by grind) c) (HJ b d) (ha z a (by grind));unfold chV;simp only[List.map_cons];rw[s1];exact uy s2 g
theorem FP{k T d uz uw D e v:Rat}(hk:0< k)(h1:k* -T≤k* (uw- uz- d* D))(h2:T* k≤d* e)(h3:d* e≤d* v)(h4:v=k* D):uz≤uw:=by
 subst h4;by_cases h:uz≤uw;exact h;have:=Rat.mul_pos hk (show 0< uz- uw by grind);grind
theorem outweigh'{k T d uz uw D e v:Rat}(hk:0< k)(h1:k* (uw- uz- d* D)≤k* T)(h2:T* k≤d* e)(h3:d* e≤d* -v)(h4:v=k* D):uw≤uz:=by
 subst h4;by_cases h:uw≤uz;exact h;have:=Rat.mul_pos hk (show 0< uw- uz by grind);grind
theorem Ch.fall{u v:List Rat}{L:List (List Rat)}{k:Rat}(H:Ch u (v::L))(hk:0< k)(hd:∀x,au v x=k* dvE u x){x y:Rat}(hxy:x≤y):chV (u::v::L) y≤chV (u::v::L) x:=by
 have g:0≤ab x+ab y:=by have:=gS x;have:=gS y;grind
 generalize j:ab x+ab y=R at g;obtain⟨a,b,hb⟩:=H.bez v L rfl;have hA:=nH g a;have hB:=nH g b;obtain⟨e,D,Y⟩:=part 1 (d:=2* (bV R a+bV R b+1)) (by decide+kernel) (by grind);obtain⟨h1,p1,T⟩:=H.cl.1 R e g D;obtain⟨X,p2,N⟩:=H.cl.2 v L rfl R e g D;have V:=DK g u;obtain⟨n,S,U⟩:=part e (d:=k* (bT R u+1)) D (Rat.mul_pos hk (by grind));obtain⟨Q,W,l4,m4⟩:=less h1 X p1 p2;obtain⟨h,p,l,m⟩:=less Q n W S;refine way (f:=chV (u::v::L)) (fun s t=>t≤s) (fun _=>Int.le_refl _) (fun _ _ _ E M=>Int.le_trans M E) p hxy fun z w E M g3 g4=>?_;have B:ab z≤R:=by rw[←j];exact rv E (by grind)
 have F:ab w≤R:=by rw[←j];exact rv (by grind) g3
 have C:ab (w- z)=w- z:=by unfold ab;rw[if_neg (by grind)]
 by_cases hu:e≤ab (au u z);obtain⟨s1,s2,A⟩:=T z w B F (by grind) hu;refine Int.le_of_eq ?_;unfold chV;simp only[List.map_cons] at A⊢;rw[s1];exact(uy s2 A).symm
 have hv:e≤ab (au v z):=by
  by_cases hv:e≤ab (au v z);exact hv;have Z:=fS (gI g B a) (show ab (au u z)≤e by grind) (gS _) hA;have n2:=fS (gI g B b) (show ab (au v z)≤e by grind) (gS _) hB;have O:=qW (au a z* au u z) (au b z* au v z);rw[hb z,iR,iR,show ab 1=1 by decide+kernel] at O;grind
 obtain⟨s1,s2,A⟩:=N z w B F (by grind) hv;have i:=qG g B F u;rw[C] at i;have q:=ab_le.1 i;have o:=hd z
 -- the derivative outweighs what leaves the tangent
 have c:bT R u* ((w- z) * (w- z)) * k≤(w- z) * e:=by
  have q1:=Rat.mul_le_mul_of_nonneg_right (show w- z≤n by grind) (show 0≤w- z by grind);have q2:=Rat.mul_le_mul_of_nonneg_left q1 V;have q3:=Rat.mul_le_mul_of_nonneg_right q2 (show 0≤k by grind);have q4:(w- z) * e=bT R u* (n* (w- z)) * k+(w- z) * n* k:=by rw[←U];grind
  have q5:=Rat.mul_nonneg (Rat.mul_nonneg (show 0≤w- z by grind) (show 0≤n by grind)) (show 0≤k by grind);grind
 have r:0≤w- z:=by grind
 unfold chV;simp only[List.map_cons];rw[s1];rcases cP z v with⟨c1,J⟩|⟨c1,J⟩|⟨c1,J⟩
 have K:ab (au v z)=au v z:=by unfold ab;rw[if_neg (by grind)]
 rw[K] at hv;have G:=Rat.mul_le_mul_of_nonneg_left hv r;have up:au u z≤au u w:=FP hk (Rat.mul_le_mul_of_nonneg_left q.1 (by grind)) c G o;exact Ad (.inl c1) (fg z u) (fg w u) (by rw[c1];have:=oz up;omega) A;have K:ab (au v z)= -au v z:=by unfold ab;rw[if_pos J]
 rw[K] at hv;have G:=Rat.mul_le_mul_of_nonneg_left hv r;have up:au u w≤au u z:=outweigh' hk (Rat.mul_le_mul_of_nonneg_left q.2 (by grind)) c G o;exact Ad (.inr c1) (fg z u) (fg w u) (by rw[c1];have:=oz up;omega) A;exact absurd c1 s2


inductive Cx:List Rat→List Rat→List (List Rat)→Prop
 |nil {u n:List Rat}:¬nz n→Cx u n []
 |cons {u n v n' q:List Rat} {L:List (List Rat)} {c:Rat}:0< c→(∀x,au v x=au n x* c)→nz v→(∀x,au n' x=au q x* au v x- au u x)→Cx v n' L→Cx u n (v::L)
theorem DJ(u:List Rat)(x:Rat):chV [u] x=0:=by
 unfold chV chL chL;grind
def HtF(f:Nat→Rat)(k:Rat)(h:Nat):Prop:=∀i,∃z:Int,f i* k=(z:Rat)∧bl z.natAbs≤h
def Ht(p:List Rat)(h:Nat):Prop:=∃k:Rat,k≠0∧HtF (coP p) k h
theorem Ht.quot{p:List Rat}{h:Nat}(H:Ht p h)(i j:Nat)(hj:coP p j≠0)(h1:1≤h):qs (coP p i/ coP p j)≤h:=by
 obtain⟨k,g,H⟩:=H;obtain⟨z,m,f⟩:=H i;obtain⟨w,c,b⟩:=H j
 have l:w≠0:=fun e=>by
  rw[e] at c;grind
 have e:coP p i/ coP p j=(z:Rat) / (w:Rat):=by grind
 have a:0< w.natAbs:=by omega
 by_cases hw:0< w
 have e2:(z:Rat) / (w:Rat)=mkRat z w.natAbs:=by
  rw[n6];show Rat.divInt (z* ((1:Nat):Int)) (((1:Nat):Int) * w)=_;rw[←Rat.divInt_ofNat];grind
 rw[e,e2];exact fh a f b
 have e2:(z:Rat) / (w:Rat)=mkRat (-z) w.natAbs:=by
  have d:(z:Rat) / (w:Rat)=((-z:Int):Rat) / ((-w:Int):Rat):=by grind
  rw[d,n6];show Rat.divInt (-z* ((1:Nat):Int)) (((1:Nat):Int) * -w)=_;rw[←Rat.divInt_ofNat];grind
 rw[e,e2];exact fh a (by grind) b
def hG:Nat→Nat→Nat→Nat→Nat→Nat→Bool
 |0,_,_,_,_,_=>false
 |f+1,m,n,s,t,X=>if n=0 then decide (s≤X) else
  decide (2^ (m+1- n) * (s+2* t+1)≤137438953472) && (List.range n).all fun k=>hG f n k t (s+(m+1- n) * (t+1)) X
def cB:Nat→Nat→Nat→Nat→Nat→Nat→Nat→Bool
 |0,_,_,_,_,_,_=>false
 |f+1,m,n,s,t,b,T=>if n=0 then true else
  decide (t≤T) && decide ((n+4) * b≤34359738368) && decide (2^ (m+1- n) * (s+2* t+1)≤137438953472) &&
   (List.range n).all fun k=>cB f n k t (s+(m+1- n) * (t+1)) (2^ (m+1- n) * (s+2* t+1)) T



end Go.Abs
