/- Part V15 of the proof. -/
import Derived.Test.YtkhclghbcicapaaGreatDoorV14
set_option linter.all false
namespace Go.Abs
def ofQ(p m:List Rat):Nat→Rat
 |0=>0
 |n+1=>ofQ p m n+coP p n* coP m n
def gK(f:List Rat):Nat→List Rat
 |0=>f
 |k+1=>aJ (gK f k) [0,1]
def moQ(f:List Rat)(s:Sp)(k:Nat):Rat:=af (ax (gK f k)) s.2- af (ax (gK f k)) s.1
def okMo(f:List Rat)(s:Sp)(k:Nat):Prop:=smL (gK f k)∧(gK f k).length≤1000000∧fe (ax (gK f k)) s.1∧fe (ax (gK f k)) s.2∧fx (gK f k) [0,1]
def sqL(sq:Nat→Rat)(n:Nat):List Rat:=(List.range n).map sq
@[simp] theorem sqL_length (sq:Nat→Rat)(n:Nat):(sqL sq n).length=n:=by simp[sqL]
def ofP(m p:List Rat):Rat:=ofQ (aj p) m (aj p).length
def okOf(m p:List Rat):Prop:=p.length≤1000000∧(aj p).length≤m.length∧(p.length+2) * (mxL p+mxL m+1)≤137438953472
instance (m p:List Rat):Decidable (okOf m p):=inferInstanceAs (Decidable (_∧_∧_))
def ldN(m p:List Rat):Rat:=ofP m (aJ p p)
def ldA(m p:List Rat):Rat:=ofP m (aJ (aJ p p) [0,1]) / ldN m p
def ldr(m:List Rat):Nat→List Rat×List Rat×Rat
 |0=>([1],[],0)
 |k+1=>(cn (aJ (ldr m k).1 [-ldA m (ldr m k).1,1]) (aL (ldr m k).2.1 (if k=0 then 0 else ldN m (ldr m k).1/ (ldr m k).2.2)),(ldr m k).1,ldN m (ldr m k).1)
def ldB(m:List Rat)(k:Nat):Rat:=if k=0 then 0 else ldN m (ldr m k).1/ (ldr m k).2.2
def ldAk(m:List Rat)(k:Nat):Rat:=ldA m (ldr m k).1
def okLd(m:List Rat)(k:Nat):Prop:=
 fx (ldr m k).1 (ldr m k).1∧okOf m (aJ (ldr m k).1 (ldr m k).1)∧0< ldN m (ldr m k).1∧fx (aJ (ldr m k).1 (ldr m k).1) [0,1]∧okOf m (aJ (aJ (ldr m k).1 (ldr m k).1) [0,1])∧
 qs (ofP m (aJ (aJ (ldr m k).1 (ldr m k).1) [0,1]))+qs (ldN m (ldr m k).1)≤549755813888∧qs (ldN m (ldr m k).1)+qs (ldr m k).2.2≤549755813888∧
 fx (ldr m k).1 [-ldAk m k,1]∧(∀q∈(ldr m k).2.1,sm q)∧sm (ldB m k)∧(∀q∈aJ (ldr m k).1 [-ldAk m k,1],sm q)∧(∀q∈aL (ldr m k).2.1 (ldB m k),sm q)∧
 (ldr m k).2.1.length≤1099511627776∧(aJ (ldr m k).1 [-ldAk m k,1]).length≤1099511627776∧(aL (ldr m k).2.1 (ldB m k)).length≤1099511627776
instance (m:List Rat) (k:Nat):Decidable (okLd m k):=by unfold okLd;infer_instance
def okBs(g nx a c:List Rat):Prop:=la g nx∧fx (cf g nx).1 c∧(∀q∈a,sm q)∧(∀q∈aJ (cf g nx).1 c,sm q)∧a.length≤1099511627776∧(aJ (cf g nx).1 c).length≤1099511627776
instance (g nx a c:List Rat):Decidable (okBs g nx a c):=by unfold okBs;infer_instance
def bzG(g:List Rat):List Rat:=aL g (((1:Int):Rat) / aF g)
def bzA(q g a:List Rat):List Rat:=(cf (aL a (((1:Int):Rat) / aF g)) (cf q (bzG g)).1).2
def okBz(p q g a:List Rat):Prop:=
 aj g≠[]∧g.length≤1099511627776∧a.length≤1099511627776∧(∀x∈g,sm x)∧(∀x∈a,sm x)∧qs (aF g)≤68719476736∧la q (bzG g)∧aj (bzG g)≠[]∧
 la (aL a (((1:Int):Rat) / aF g)) (cf q (bzG g)).1∧aj (cf q (bzG g)).1≠[]∧fx (bzA q g a) p∧(∀x∈bzG g,sm x)∧(∀x∈aJ (bzA q g a) p,sm x)∧
 (bzG g).length≤1099511627776∧(aJ (bzA q g a) p).length≤1099511627776∧la (cn (bzG g) (aJ (bzA q g a) p)) q
instance (p q g a:List Rat):Decidable (okBz p q g a):=by unfold okBz;infer_instance
def tpV(p m:List Rat)(i:Nat):Nat→Rat
 |0=>0
 |j+1=>if i< j then tpV p m i j+coP p j* coP m (j- 1- i) else tpV p m i j
def tpQ(p m:List Rat):List Rat:=aW (p.length- 1) fun i=>tpV p m i p.length
def apR(p w f:List Rat):List Rat:=(cf (aJ w (cf f p).2) p).2
def nwA(T:List Rat)(n:Nat)(out:List Rat)(k:Nat):Nat→Rat
 |0=>coP T (n- k) * ((k:Int):Rat)
 |i+1=>nwA T n out k i+coP T (n- (i+1)) * coP out (k- (i+1))
def suL(T:List Rat)(n:Nat):Nat→List Rat
 |0=>[((n:Int):Rat)]
 |k+1=>suL T n k++[-(nwA T n (suL T n k) (k+1) k)]
def okSu(T:List Rat)(n k:Nat):Prop:=qs (coP T (n- (k+1)))+qs (((k+1:Nat):Int):Rat)≤549755813888∧
 ∀i,i< k→qs (coP T (n- (i+1)))+qs (coP (suL T n k) (k+1- (i+1)))≤549755813888∧qs (nwA T n (suL T n k) (k+1) i)+qs (coP T (n- (i+1)) * coP (suL T n k) (k+1- (i+1)))≤549755813888
def krS(e m:List Rat)(k:Nat):Nat→Rat
 |0=>0
 |j+1=>krS e m k j+coP e j* coP m (j+k)
def krE(m:List Rat)(n:Nat):Nat→List Rat
 |0=>List.replicate (n+1) 0++[((1:Int):Rat)]
 |k+1=>(krE m n k).set (n- k) (-(krS (krE m n k) m k (n+2) / coP m n))
def okKr(m:List Rat)(n k:Nat):Prop:=(∀j,j< n+2→qs (coP (krE m n k) j)+qs (coP m (j+k))≤549755813888∧qs (krS (krE m n k) m k j)+qs (coP (krE m n k) j* coP m (j+k))≤549755813888)∧
 qs (krS (krE m n k) m k (n+2))+qs (coP m n)≤549755813888

theorem Ay{e:Int}(he:e=1∨e= -1):∀(l:List Int) (t:Int),(t=1∨t= -1)→(∀s∈l,-1≤s∧s≤1)→(t::l).getLast?=some e→chL l 0 t % 2=if t=e then 0 else 1
 |[],t,ht,_,h=>by
  have:t=e:=by grind
  rw[if_pos this];rfl
 |s::l,t,ht,hs,h=>by
  have b:=hs s (List.mem_cons_self ..);by_cases hz:s≠0;have c:=Ay he l s (by omega) (fun x a=>hs x (List.mem_cons_of_mem _ a)) (by grind);rw[chL,if_pos hz,oZ];by_cases h1:s=e;by_cases h2:s= -t;omega;omega;by_cases h2:s= -t;omega;omega;rw[chL,if_neg hz];refine Ay he l t ht (fun x a=>hs x (List.mem_cons_of_mem _ a)) ?_;grind
theorem Ch.last{u:List Rat}{L:List (List Rat)}(H:Ch u L):∃e:Int,(e=1∨e= -1)∧∀x,((u::L).map (sgE x)).getLast?=some e:=by
 induction H with
 | @one u c hc hu=>
  have h:=Ch.sg (.one hc hu) 0;have hb:=fa 0 u;exact⟨sgE 0 u,by have:=(h 0).2;omega,fun x=>((by grind))⟩
 | @pair u v _ ih=>
  simp_all
 | @step u v w L a c q _ _ _ _ ih=>
  simp_all
theorem Ch.drop{u v:List Rat}{L:List (List Rat)}{k:Rat}(H:Ch u (v::L))(hk:0< k)(hd:∀x,af v x=k* dvE u x){x y:Rat}(hxy:x≤y)(hs:af u x* af u y< 0):chV (u::v::L) y+1≤chV (u::v::L) x:=by
 have h1:=H.fall hk hd hxy;obtain⟨e,j,h⟩:=H.last
 have d:∀z,sgE z u≠0→chV (u::v::L) z % 2=if sgE z u=e then 0 else 1:=fun z i=>by
  have hb:=fa z u;unfold chV;rw[List.map_cons,chL,if_pos i,if_neg (by omega)]
  exact Ay j _ _ (by omega) (fun s hs=>by
   obtain⟨q,_,rfl⟩:=List.mem_map.1 hs;exact fa z q) (by grind)
 have f:sgE x u≠0∧sgE y u≠0∧sgE x u≠sgE y u:=by
  rcases bR x u with⟨a,b⟩|⟨a,b⟩|⟨a,b⟩<;> rcases bR y u with⟨g,c⟩|⟨g,c⟩|⟨g,c⟩
  have:=Rat.mul_pos b c;grind;omega;rw[c] at hs;grind;omega;have:=Rat.mul_pos (show 0< -af u x by grind) (show 0< -af u y by grind);grind;rw[c] at hs;grind;rw[b] at hs;grind;rw[b] at hs;grind;rw[b] at hs;grind
 have o:=d x f.1;have n:=d y f.2.1;have m:=fa x u;have l:=fa y u;grind
theorem Co{B x:Rat}(hB:1≤B)(hx:B≤x):∀(l:List Rat) (lead:Rat),l.getLast?=some lead→lead≠0→(∀c∈l.dropLast,ab c≤(B- 1) * ab lead)→
    ab lead≤ab (af l x)
 |[],_,h,_,_=>by cases h
 |[a],lead,h,h0,_=>by
  have e:a=lead:=by simpa using h
  subst e;have e:af [a] x=a:=by rw[aE,aM];grind
  rw[e];grind
 |a::b::m,lead,h,h0,hc=>by
  rw[List.getLast?_cons_cons] at h;rw[List.dropLast_cons_cons] at hc;have i1:=Co hB hx (b::m) lead h h0 fun c d=>hc c (List.mem_cons_of_mem _ d);have ha:=hc a (List.mem_cons_self ..);have e:af (a::b::m) x=af (b::m) x* x+a:=aE ..;generalize af (b::m) x=w at *
  have h1:=Rat.mul_le_mul_of_nonneg_left i1 (show 0≤B- 1 by grind);have f:=ik (w* x+a) (-a);rw[tX,show w* x+a+ -a=w* x by grind,cM] at f;have g:ab x=x:=by unfold ab;rw[if_neg (by grind)]
  have i:=Rat.mul_le_mul_of_nonneg_left (show B≤ab x by rw[g];exact hx) (cZ w);rw[e];grind
theorem w9{q:List Rat}(h:nz q){x:Rat}(hx:cj q≤x):ab (aF q)≤ab (af q x):=by
 have d:=List.length_pos_iff.2 h;have hg:=c8 (l:=q) (n:=(aj q).length- 1) (by omega)
 have h1:=Co (tR q) hx (aj q) (aF q) (by rw[List.getLast?_eq_getElem?];exact hg) (c9 h) fun c hc=>by
  rw[List.dropLast_eq_take] at hc;have b:=(sx (aF q) _ 0).2 c hc;have a:=cM (c/ aF q) (aF q);rw[Rat.div_mul_cancel (c9 h)] at a;rw[a];have e:=Rat.mul_le_mul_of_nonneg_right b (cZ (aF q));unfold cj;grind
 rwa[cg] at h1



def bN:Nat→List Rat
 |1=>[0,1]
 |2=>[mkRat (-1) 3,0,1]
 |3=>[0,mkRat (-3) 5,0,1]
 |4=>[mkRat 3 35,0,mkRat (-6) 7,0,1]
 |_=>[1]
def bWt:Nat→List Rat
 |1=>[2]
 |2=>[1]
 |3=>[mkRat 8 9,0,mkRat (-5) 9]
 |4=>[mkRat 17 24,0,mkRat (-35) 72]
 |_=>[]
def bA:Nat→List Rat
 |2=>[-3]
 |3=>[0,mkRat (-25) 2]
 |4=>[mkRat 35 3,0,mkRat (-1225) 24]
 |_=>[]
def bB:Nat→List Rat
 |1=>[1]
 |2=>[0,mkRat 3 2]
 |3=>[mkRat (-5) 3,0,mkRat 25 6]
 |4=>[0,mkRat (-805) 96,0,mkRat 1225 96]
 |_=>[]
def bX(k i:Nat):Rat:=
 if i=0 then -1 else if i=k then 1 else if k=2 then 0 else if i=1 then mkRat (-1) 2 else if k=4∧i=2 then 0 else mkRat 1 2
def m0K(k:Nat):List Rat:=sqL (moQ [1] (-1,1)) (2* k)
def baseC(k:Nat):Prop:=
 (∀j,j< k+1→(ldr (m0K k) j).1=bN j)∧(∀j,j< k→0< ldN (m0K k) (ldr (m0K k) j).1)∧(bN k).length=k+1∧coP (bN k) k=1∧fV (aJ (bA k) (bN k)) (aJ (bB k) (aN (bN k)))=[1]∧
 (cf (cn (aJ (bWt k) (aN (bN k))) (tpQ (bN k) (m0K k))) (bN k)).2=[]∧(bWt k).length≤k∧(∀i,i< k→bX k i< bX k (i+1))∧(∀i,i< k→af (bN k) (bX k i) * af (bN k) (bX k (i+1))< 0)∧
 (∀j,j< k+1→bdL (bN j) 8∧(bN j).length≤5)∧bdL (bWt k) 8
instance (k:Nat):Decidable (baseC k):=by unfold baseC;infer_instance
section
variable {a b:Rat}(h:a< b){k:Nat}(hk:1≤k∧k≤4)
include h hk
end

theorem bdL_mono'{l:List Rat}{a b:Nat}(h:bdL l a)(hab:a≤b):bdL l b:=fun q c=>Nat.le_trans (h q c) hab
section
variable {a b:Rat}(h:a< b){k:Nat}(hk:1≤k∧k≤4)(ha:qs a≤20)(hb:qs b≤20)
include ha hb
end
section
variable {a b:Rat}(h:a< b){k:Nat}(hk:1≤k∧k≤4)
include h hk
variable (ha:qs a≤20)(hb:qs b≤20)
include ha hb
end
section
variable {a b:Rat}(h:a< b){k:Nat}(hk:1≤k∧k≤4)(ha:qs a≤20)(hb:qs b≤20)
include h hk ha hb
end
section
variable {a b a' b':Rat}(h:a< b)(h':a'< b'){k:Nat}(hk:1≤k∧k≤4)
include h h'
end
section
variable {a b a' b':Rat}(ha:qs a≤20)(hb:qs b≤20)(ha':qs a'≤20)(hb':qs b'≤20)
include ha hb ha' hb'
end
def okReC(c:Cnt)(p:List Rat):Prop:=pa c (-cj p)∧qW c (cj p)∧smS (-cj p,cj p)∧rc p∧p.length≤1000∧1≤cQ p∧cQ p≤25
instance (c:Cnt) (p:List Rat):Decidable (okReC c p):=by unfold okReC;infer_instance
def okOnC(p m G A:List Rat):Prop:=okBz (aN p) p G A∧fx (tpQ p m) (bzA p G A)∧la (aJ (tpQ p m) (bzA p G A)) p∧aj p=p∧2≤p.length∧p.length≤1000∧p.length≤m.length+1∧(p.length+1) * (mxL p+mxL m+1)≤137438953472∧smL p
instance (p m G A:List Rat):Decidable (okOnC p m G A):=by unfold okOnC;infer_instance
def suP(p:List Rat):List Rat:=suL (aj p) (dg p) (dg p- 1)
def apV(p w f:List Rat):Rat:=ofQ (apR p w f) (suP p) (apR p w f).length
instance (T:List Rat) (n k:Nat):Decidable (okSu T n k):=by unfold okSu;infer_instance
instance (f:List Rat) (s:Sp) (k:Nat):Decidable (okMo f s k):=by unfold okMo smL;infer_instance
def okAp(p w f:List Rat):Prop:=la f p∧fx w (cf f p).2∧la (aJ w (cf f p).2) p∧1≤dg p∧dg p≤1000∧p.length≤1000∧(∀k,k< dg p- 1→okSu (aj p) (dg p) k)∧(apR p w f).length≤dg p∧((apR p w f).length+2) * (mxL (apR p w f)+mxL (suP p)+1)≤137438953472∧sm (apV p w f)
instance (p w f:List Rat):Decidable (okAp p w f):=by unfold okAp;infer_instance
instance (m:List Rat) (n k:Nat):Decidable (okKr m n k):=by unfold okKr;infer_instance
theorem mX{l:List Rat}{q:Rat}(h:q∈l):∃i,i< l.length∧coP l i=q:=by
 obtain⟨i,a,e⟩:=List.getElem_of_mem h;exact⟨i,a,by rw[←e];unfold coP;rw[List.getD_eq_getElem?_getD,List.getElem?_eq_getElem a];rfl⟩
theorem qiN(n:Int):qs (n:Rat)≤max (bl n.natAbs) 1:=by
 have e1:(n:Rat).num=n:=rfl;have e2:(n:Rat).den=1:=rfl;unfold qs;rw[e2,j2];grind
theorem qi21{n:Int}(h: -2000000≤n∧n≤2000000):qs (n:Rat)≤21:=by
 have h1:=qiN n;have a:bl n.natAbs≤21:=ez (by omega);omega
theorem Bt{p:List Rat}{s:Nat}(h:bdL p s)(hs:1≤s)(hl:p.length≤1000000):bdL (ax p) (s+21):=fun q a=>by
 obtain⟨i,c,e⟩:=mX a;have b:=jG p;rw[←e,fP];split;exact Nat.le_trans (by decide:qs 0≤1) (by omega);have h1:=iN (coP p (i- 1)) (((i:Nat):Int):Rat);have d:=fI h hs (i- 1);have f:=qi21 (n:=((i:Nat):Int)) (by omega);omega
section
variable {a b:Rat}{p q:Nat}(ha:qs a≤256)(hb:qs b≤256)(hp:p≤8)(hq:q≤8)
include ha in
end

abbrev oP(m:List Rat)(k:Nat):List Rat:=(ldr m k).1
abbrev oN(m:List Rat)(k:Nat):Rat:=ldN m (oP m k)

section
variable {N:List Rat}(hN:nz N)(hm:aF N=1)(h1:1≤dg N)
include hN hm h1
end

def IB(x:Rat)(h:Nat):Prop:=∃z:Int,x=(z:Rat)∧bl z.natAbs≤h
theorem IB.mono{x:Rat}{h k:Nat}(H:IB x h)(hk:h≤k):IB x k:=by obtain⟨z,e,b⟩:=H;exact⟨z,e,by omega⟩
theorem IB.zero(h:Nat):IB 0 h:=⟨0,rfl,Nat.zero_le _⟩
theorem IB.one:IB 1 1:=⟨1,rfl,by decide⟩
theorem IB.mul{x y:Rat}{h k:Nat}(H:IB x h)(K:IB y k):IB (x* y) (h+k):=by
 obtain⟨z,e,b⟩:=H;obtain⟨w,c,a⟩:=K;exact⟨z* w,by grind,dG b a⟩
theorem IB.add{x y:Rat}{h:Nat}(H:IB x h)(K:IB y h):IB (x+y) (h+1):=by
 obtain⟨z,e,b⟩:=H;obtain⟨w,c,a⟩:=K;exact⟨z+w,by grind,o0 b a⟩
theorem IB.neg{x:Rat}{h:Nat}(H:IB x h):IB (-x) h:=by
 obtain⟨z,e,b⟩:=H;exact⟨-z,by grind,by grind⟩
theorem IB.eq{x y:Rat}{h:Nat}(H:IB x h)(e:x=y):IB y h:=e▸H
structure HS (p:List Rat)(K:Rat)(h:Nat):Prop where
 ne:K≠0
 sc:IB K h
 co:∀i,IB (coP p i* K) h
theorem HS.ht{p:List Rat}{K:Rat}{h:Nat}(H:HS p K h):Ht p h:=⟨K,H.ne,fun i=>by
 obtain⟨z,e,b⟩:=H.co i;grind⟩
theorem si(p q:List Rat)(n:Nat):coP (aJ p q) n=eW p q p.length n:=by
 rw[←wP];exact trim_iff.1 (jO fun x=>by rw[bh,qm]) n
theorem Fu{p q:List Rat}{K K':Rat}{h h':Nat}(H:HS p K h)(H':HS q K' h')(n:Nat):∀i,IB (eW p q i n* (K* K')) (h+h'+i)
 |0=>(IB.zero _).eq (by show 0=0* _;grind)
 |i+1=>by
  have b:=Fu H H' n i
  have a:IB ((if i≤n then coP p i* coP q (n- i) else 0) * (K* K')) (h+h'+i):=by
   split;exact(((H.co i).mul (H'.co (n- i))).eq (by grind)).mono (by omega);exact(IB.zero _).eq (by grind)
  exact((b.add a).eq (by rw[eW];grind)).mono (by omega)
theorem HS.mul{p q:List Rat}{K K':Rat}{h h' L:Nat}(H:HS p K h)(H':HS q K' h')(hl:p.length≤L):HS (aJ p q) (K* K') (h+h'+L) where
 ne e:=(Rat.mul_eq_zero.1 e).elim H.ne H'.ne
 sc:=(H.sc.mul H'.sc).mono (by omega)
 co i:=by
  rw[si];exact(Fu H H' i p.length).mono (by omega)
theorem HS.step {p l r:List Rat} {K K' A B B' a b:Rat} {h h' M:Nat} (H:HS p K h) (H':HS l K' h') (hB:IB B (2* h+M)) (hA:IB A (2* h+M)) (hB':IB B' (2* h'+M)) (b0:B≠0) (b0':B'≠0) (ha:a* B=A)
    (hb:∀i,coP l i* b* (B'* K* K)=coP l i* K'* K'* B) (hr:∀i,coP r i=coP p i* -a+lag p i- coP l i* b):HS r (K* K* B* B') (4* h+2* h'+2* M+2) where
 ne e:=by
  rcases Rat.mul_eq_zero.1 e with e|e
  rcases Rat.mul_eq_zero.1 e with e|e
  rcases Rat.mul_eq_zero.1 e with e|e <;> exact H.ne e
  exact b0 e;grind
 sc:=(((H.sc.mul H.sc).mul hB).mul hB').mono (by omega)
 co i:=by
  have c:IB (lag p i* K) h:=by
   cases i with
   |zero=>exact(IB.zero h).eq (by show 0=0* K;grind)
   |succ i=>exact H.co i
  have t1:=((((H.co i).mul H.sc).mul hB').mul hA).neg;have t2:=((c.mul H.sc).mul hB').mul hB;have d:=((((H'.co i).mul H'.sc).mul hB).mul hB).neg;have s1:=(t1.mono (show _≤4* h+2* h'+2* M by omega)).add (t2.mono (show _≤4* h+2* h'+2* M by omega));have s2:=s1.add (d.mono (show _≤4* h+2* h'+2* M+1 by omega));grind
def p2(n:Nat):Rat:=((2^ n:Nat):Int)
theorem eJ(a b:Nat):p2 (a+b)=p2 a* p2 b:=by unfold p2;grind
theorem uJ:p2 0=1:=rfl
theorem lA:p2 1=2:=rfl
theorem eU{a b:Nat}(h:a≤b):p2 a≤p2 b:=by
 unfold p2;rw[Rat.intCast_le_intCast];have:=Nat.pow_le_pow_right (n:=2) (by omega) h;omega
theorem dp(a:Nat):0< p2 a:=by have:=eU (Nat.zero_le a);rw[uJ] at this;grind
theorem EQ(a:Nat):1≤p2 a:=by have:=eU (Nat.zero_le a);rwa[uJ] at this
theorem IB.ab{x:Rat}{h:Nat}(H:IB x h):Abs.ab x≤p2 h:=by
 obtain⟨z,e,b⟩:=H;have h1:z.natAbs≤2^ h:=Nat.le_trans (Nat.le_of_lt (uj z.natAbs)) (Nat.pow_le_pow_right (by omega) b);rw[e,ab_le];unfold p2;rw[←Rat.intCast_neg,Rat.intCast_le_intCast,Rat.intCast_le_intCast];omega
theorem IB.one_le{x:Rat}{h:Nat}(H:IB x h)(h0:x≠0):1≤Abs.ab x:=by
 obtain⟨z,e,_⟩:=H;have a:z≠0:=fun g=>h0 (by simp_all);have e1:(1:Rat)=((1:Int):Rat):=rfl;rw[e,e1];refine ls ?_ (by decide);rw[←Rat.intCast_neg,Rat.intCast_le_intCast,Rat.intCast_le_intCast];omega
theorem Ct{r H:Nat}:∀l:List Rat,(∀c∈l,ab c≤p2 H)→bV (p2 r) l≤p2 (H+(r+1) * l.length)
 |[],_=>by exact Rat.le_of_lt (dp _)
 |a::l,h=>by
  have h1:=Ct (r:=r) l fun c hc=>h c (List.mem_cons_of_mem _ hc);have b:=Rat.mul_le_mul_of_nonneg_right h1 (show 0≤p2 r from Rat.le_of_lt (dp r));have d:p2 H≤p2 (H+(r+1) * l.length+r):=eU (by omega);have e:H+(r+1) * (a::l).length=H+(r+1) * l.length+r+1:=by grind
  rw[bV,e,eJ _ 1,lA,eJ _ r] at *
  grind
theorem Jw{r H:Nat}:∀l:List Rat,(∀c∈l,ab c≤p2 H)→bL (p2 r) l≤p2 (H+(r+2) * l.length)
 |[],_=>by exact Rat.le_of_lt (dp _)
 |a::l,h=>by
  have h1:=Jw (r:=r) l fun c hc=>h c (List.mem_cons_of_mem _ hc);have f:=Ct (r:=r) l fun c hc=>h c (List.mem_cons_of_mem _ hc);have g:=Rat.mul_le_mul_of_nonneg_right h1 (show 0≤p2 r from Rat.le_of_lt (dp r));have b:p2 (H+(r+1) * l.length)≤p2 (H+(r+2) * l.length+r):=eU (by grind);have e:H+(r+2) * (a::l).length=H+(r+2) * l.length+r+1+1:=by grind
  have d:p2 (H+(r+2) * l.length+r) * 2≤p2 (H+(r+2) * l.length+r+1+1):=by
   rw[eJ _ 1,eJ _ 1,lA];have:=dp (H+(r+2) * l.length+r);grind
  rw[bL];rw[eJ _ r] at b d;grind
def sF:Nat→Nat→Nat→Nat→Nat→Nat→Nat
 |0,_,_,_,_,_=>0
 |f+1,m,n,h,g,r=>(h+(m+1- n) * (g+1))+g+(r+1) * (m+1- n)+1+((List.range n).map fun k=>if k=0 then 0 else sF f n k g (h+(m+1- n) * (g+1)) r).foldl max 0
theorem ym:∀(l:List Nat) (a:Nat),a≤l.foldl max a∧∀x∈l,x≤l.foldl max a
 |[],a=>⟨Nat.le_refl _,fun x h=>by cases h⟩
 |b::l,a=>by
  obtain⟨h1,c⟩:=ym l (max a b);grind
theorem sF_sub{f m n h g r k:Nat}(hk:k< n)(h0:k≠0):sF f n k g (h+(m+1- n) * (g+1)) r+((h+(m+1- n) * (g+1))+g+(r+1) * (m+1- n)+1)≤sF (f+1) m n h g r:=by
 rw[sF];have:=(ym ((List.range n).map fun k=>if k=0 then 0 else sF f n k g (h+(m+1- n) * (g+1)) r) 0).2 (sF f n k g (h+(m+1- n) * (g+1)) r) (List.mem_map.2 ⟨k,List.mem_range.2 hk,by grind⟩);omega
theorem tri{a b c A B:Rat}(h:a≤b+c)(h1:b≤A)(h2:c≤B):a≤A+B:=by grind
theorem two_le{A B a b w M:Rat}(h1:A* a≤A* w)(h2:B* b≤B* w)(h3:(A+B) * w≤M* w):A* a+B* b≤M* w:=by grind
theorem last_le{T w N N' M S:Rat}(h1:1≤T* N')(h2:T* N'≤S* N')(h3:S* N'≤M* w* N')(h4:w* (N'* M)≤w* N)(h5:w* N< 1):False:=by grind
theorem low:∀(f m n h g r:Nat) (p q:List Rat) (k l:Rat),n< f→(aj p).length=m→(aj q).length=n→n≤m→nz q→k≠0→l≠0→HtF (coP p) k h→HtF (coP q) l g→(∀d,nz d→Dv d p→Dv d q→dg d=0)→
    ∀x,ab x≤p2 r→1≤ab (k* af p x) * p2 (sF f m n h g r)∨1≤ab (l* af q x) * p2 (sF f m n h g r)
 |0,_,_,_,_,_,_,_,_,_,hf,_,_,_,_,_,_,_,_,_,_,_=>by omega
 |f+1,m,n,h,g,r,p,q,k,l,hf,hm,hn,hnm,nq,k0,l0,hp,hq,hco,x,hx=>by
  have z:∀i,IB (coP q i* l) g:=fun i=>hq i;have J:∀i,IB (coP p i* k) h:=fun i=>hp i;have np:nz p:=fun e=>by rw[e] at hm;have:=List.length_pos_iff.2 nq;grind
  obtain⟨m1,m2⟩:=lb p nq;by_cases hw:nz (md p q);rotate_left
  -- the second one is a number
  have hd:dg q=0:=hco q nq ⟨(cf p q).1,fun x=>by have:=m1 x;rw[ig hw] at this;grind⟩ (.refl q);obtain⟨c,c0,hc⟩:=pX nq hd
  have S:coP q 0=c:=by
   have:aj q=aj [c]:=eqv_trim.1 fun x=>by rw[hc,aE,aM];grind
   exact trim_iff.1 this 0
  right;have h1:=(z 0).one_le (by rw[S];intro e;rcases Rat.mul_eq_zero.1 e with e|e;exact c0 e;exact l0 e);rw[hc,←S];have h2:=Rat.mul_le_mul_of_nonneg_left (EQ (sF (f+1) m n h g r)) (cZ (coP q 0* l));rw[show l* coP q 0=coP q 0* l by grind];grind
  -- one step of the division
  have hl1:=List.length_pos_iff.2 nq;have F:=c8 (l:=q) (n:=(aj q).length- 1) (by omega);have hc:coP (aj q) ((aj q).length- 1)=aF q:=by unfold coP;rw[List.getD_eq_getElem?_getD,F];rfl
  obtain⟨b,k1,k2,k3⟩:=Ai hc (c9 nq) l0 (fun i=>by rw[ce];exact hq i) (m+1- n) (List.replicate (m+1- n) 0) (aj p) k h k0 (fun i=>by rw[ce];exact hp i) fun i=>by
   refine⟨0,?_,Nat.zero_le _⟩
   have:coP (List.replicate (m+1- n) (0:Rat)) i=0:=by
    unfold coP;rw[List.getD_eq_getElem?_getD,List.getElem?_replicate];split <;> rfl
   rw[this,Rat.zero_mul];rfl
  have q1:∀i,IB (coP (cf p q).1 i* (b/ l)) (h+(m+1- n) * (g+1)):=fun i=>by
   have:(cf p q).1=aj (jQ (aj q) (aF q) (m+1- n) (List.replicate (m+1- n) 0) (aj p)).1:=by unfold cf;simp only[hm,hn]
   rw[this,ce];exact k2 i
  have q2:HtF (coP (md p q)) b (h+(m+1- n) * (g+1)):=fun i=>by
   have:md p q=aj (jQ (aj q) (aF q) (m+1- n) (List.replicate (m+1- n) 0) (aj p)).2:=by unfold md cf;simp only[hm,hn]
   rw[this,ce];exact k3 i
  have C:(aj (md p q)).length< n:=by have:=m2 hw;unfold dg at this;have:=List.length_pos_iff.2 hw;omega
  have o:(aj (md p q)).length≠0:=by have:=List.length_pos_iff.2 hw;omega
  generalize hH:h+(m+1- n) * (g+1)=H at *
  have ih:=low f n (aj (md p q)).length g H r q (md p q) l b (by omega) hn rfl (by omega) hw l0 k1 hq q2 (fun d d0 d1 d2=>hco d d0 (d1.lin d2 (u:=(cf p q).1) (v:=[1]) fun x=>by rw[m1 x,aE,aM];grind) d1) x hx;have hF:=sF_sub (f:=f) (m:=m) (h:=h) (g:=g) (r:=r) C o;rw[hH] at hF
  -- the quotient's first number
  have y:nz (cf p q).1∧aF p=aF (cf p q).1* aF q∧dg (cf p q).1+dg q=dg p:=by
   have hQ:nz (cf p q).1:=fun e=>by
    have W:∀x,af (cf p q).1 x=0:=ig fun h=>h e;have:dg p=dg (md p q):=I6 fun x=>by rw[m1 x,W];grind
    have:=m2 hw;unfold dg at *;omega
   have hs:=dg_mul' (r:=aJ (cf p q).1 q) hQ nq (fun x=>bh _ _ x);have:=dg_add (q:=md p q) (r:=p) hs.1 (fun _=>by rw[hs.2.1];have:=m2 hw;omega) (fun x=>by rw[m1 x,bh]);exact⟨hQ,by rw[this.2.2,hs.2.2],by rw[this.2.1,hs.2.1]⟩
  have t:b/ l* l=b:=Rat.div_mul_cancel l0;obtain⟨κ,L⟩:∃κ,κ* k=b:=⟨b/ k,Rat.div_mul_cancel k0⟩
  have hκ:ab κ≤p2 (H+g):=by
   have K:=(q1 (dg (cf p q).1)).ab;have Q:=(z (dg q)).ab;have T:=(J (dg p)).one_le (by rw[(eo np).2];intro e;rcases Rat.mul_eq_zero.1 e with e|e;exact c9 np e;exact k0 e);rw[(eo y.1).2] at K;rw[(eo nq).2] at Q;rw[(eo np).2] at T
   have a4:κ* (aF p* k)=aF (cf p q).1* (b/ l) * (aF q* l):=by
    rw[y.2.1];have:aF (cf p q).1* (b/ l) * (aF q* l)=aF (cf p q).1* aF q* (b/ l* l):=by grind
    rw[this,t,←L];grind
   have a5:=dw K Q (cZ _) (Rat.le_of_lt (dp H));rw[←cM,←a4,cM,←eJ] at a5;have a6:=Rat.mul_le_mul_of_nonneg_left T (cZ κ);grind
  have B:ab (b/ l* af (cf p q).1 x)≤p2 (H+(r+1) * (m+1- n)):=by
   have b1:(aL (cf p q).1 (b/ l)).length≤m+1- n:=by
    have c1:=jP (aj q) (aF q) ((aj p).length+1- (aj q).length) (List.replicate ((aj p).length+1- (aj q).length) 0) (aj p);have R:=bO (jQ (aj q) (aF q) ((aj p).length+1- (aj q).length) (List.replicate ((aj p).length+1- (aj q).length) 0) (aj p)).1;rw[c1.1,List.length_replicate,hm,hn] at R;have c3:(cf p q).1.length≤m+1- n:=by unfold cf;simp only[hm,hn];exact R
    have c4:=dn (cf p q).1 (b/ l);omega
   have b2:=Ct (r:=r) (H:=H) (aL (cf p q).1 (b/ l)) fun c hc=>by
    obtain⟨i,_,e⟩:=mX hc;rw[←e,cS];exact(q1 i).ab
   have X:=fE (Rat.le_of_lt (dp r)) hx (aL (cf p q).1 (b/ l));rw[aR] at X;have b4:p2 (H+(r+1) * (aL (cf p q).1 (b/ l)).length)≤p2 (H+(r+1) * (m+1- n)):=eU (by have:=Nat.mul_le_mul_left (r+1) b1;omega);rw[show b/ l* af (cf p q).1 x=af (cf p q).1 x* (b/ l) by grind];grind
  generalize hN:sF (f+1) m n h g r=N at *
  generalize V:sF f n (aj (md p q)).length g H r=s at *
  have hM:p2 s* p2 (H+g+(r+1) * (m+1- n)+1)≤p2 N:=by rw[←eJ];exact eU (by omega)
  have G:p2 (H+g)+p2 (H+(r+1) * (m+1- n))≤p2 (H+g+(r+1) * (m+1- n)+1):=by
   have:=eU (show H+g≤H+g+(r+1) * (m+1- n) by omega);have:=eU (show H+(r+1) * (m+1- n)≤H+g+(r+1) * (m+1- n) by omega);rw[eJ _ 1,lA];grind
  have D:=EQ (H+g+(r+1) * (m+1- n)+1);generalize p2 (H+g+(r+1) * (m+1- n)+1)=M at *
  have pN:=dp N;have j:=dp s;by_cases hq1:1≤ab (l* af q x) * p2 N;exact .inr hq1;left;by_cases hp1:1≤ab (k* af p x) * p2 N;exact hp1;exfalso;have nP:=cZ (k* af p x);have nQ:=cZ (l* af q x);have s1:p2 s≤p2 N:=by have:=Rat.mul_le_mul_of_nonneg_left D (Rat.le_of_lt j);grind
  rcases ih with U|U
  have:=Rat.mul_le_mul_of_nonneg_left s1 nQ;grind
  have e1:b* af (md p q) x=κ* (k* af p x)- b/ l* af (cf p q).1 x* (l* af q x):=by
   have Z:=m1 x;have:b/ l* af (cf p q).1 x* (l* af q x)=(b/ l* l) * (af (cf p q).1 x* af q x):=by grind
   rw[this,t,←L,Z];grind
  have e2:=ik (κ* (k* af p x)) (-(b/ l* af (cf p q).1 x* (l* af q x)));rw[tX,←Rat.sub_eq_add_neg,←e1,cM κ,cM (b/ l* af (cf p q).1 x)] at e2
  -- both are less than 1/ N
  have t1:=Rat.mul_le_mul_of_nonneg_right hκ nP;have t2:=Rat.mul_le_mul_of_nonneg_right B nQ;have t3:ab (b* af (md p q) x) * p2 s≤(p2 (H+g) * ab (k* af p x)+p2 (H+(r+1) * (m+1- n)) * ab (l* af q x)) * p2 s:=Rat.mul_le_mul_of_nonneg_right (tri e2 t1 t2) (Rat.le_of_lt j)
  obtain⟨w,E,A,hw3⟩:∃w,ab (k* af p x)≤w∧ab (l* af q x)≤w∧w* p2 N< 1:=by
   by_cases g:ab (k* af p x)≤ab (l* af q x);exact⟨_,g,by grind,by grind⟩;exact⟨_,by grind,by grind,show ab (k* af p x) * p2 N< 1 by grind⟩
  have O:0≤w:=by grind
  have Y:=Rat.mul_le_mul_of_nonneg_left E (Rat.le_of_lt (dp (H+g)));have t5:=Rat.mul_le_mul_of_nonneg_left A (Rat.le_of_lt (dp (H+(r+1) * (m+1- n))));have t6:=Rat.mul_le_mul_of_nonneg_right G O;have t7:=Rat.mul_le_mul_of_nonneg_right (two_le Y t5 t6) (Rat.le_of_lt j);have t8:=Rat.mul_le_mul_of_nonneg_left hM O;grind
theorem HY{U:List Rat}{H F r L:Nat}(hU:∀c∈U,ab c≤p2 H)(hl:U.length≤L){x y:Rat}(hx:ab x≤p2 r)(hy:ab y≤p2 r)(h1:1≤ab (af U x) * p2 F)(hd:(y- x) * p2 (F+(H+(r+2) * L)+1)≤1):Far U x y:=by
 have h:=Rat.le_of_lt (dp r);have f:=dp F;obtain⟨e,j,e1⟩:=part 1 (d:=p2 F* 2) (by grind) (by grind);refine⟨e,j,fun z a b=>?_⟩;have i:ab z≤p2 r:=by rw[ab_le] at *;grind
 have q1:=iG h hx i U;rw[show ab (z- x)=z- x by unfold ab;grind] at q1
 have q2:bL (p2 r) U≤p2 (H+(r+2) * L):=by
  have:=Jw (r:=r) U hU;have:=eU (show H+(r+2) * U.length≤H+(r+2) * L by have:=Nat.mul_le_mul_left (r+2) hl;omega);grind
 have q3:=Rat.mul_le_mul_of_nonneg_right q2 (show 0≤z- x by grind);have q4:=Rat.mul_le_mul_of_nonneg_left (show z- x≤y- x by grind) (Rat.le_of_lt (dp (H+(r+2) * L)));rw[eJ,eJ,lA] at hd;generalize p2 (H+(r+2) * L)=D at *
 have q5:D* (y- x)≤e:=jk (show 0< p2 F* 2 by grind) (by grind);have q6:2* e≤ab (af U x):=jk f (by grind);have q7:=ab_le.1 (show ab (af U z- af U x)≤e by grind);rcases qu q6 with g|g
 exact ls (.inl (by grind)) (by grind);exact ls (.inr (by grind)) (by grind)
theorem EB {p q:List Rat} {k l:Rat} {m n h g r J:Nat} (hm:(aj p).length=m) (hn:(aj q).length=n) (hnm:n≤m) (nq:nz q) (k0:k≠0) (l0:l≠0) (hp:HtF (coP p) k h) (hq:HtF (coP q) l g) (hco:∀d,nz d→Dv d p→Dv d q→dg d=0)
    (hJ1:sF (n+1) m n h g r+(h+(r+2) * m)+1≤J) (hJ2:sF (n+1) m n h g r+(g+(r+2) * m)+1≤J) {x y:Rat} (hxy:x≤y) (hx:ab x≤p2 r) (hy:ab y≤p2 r) (hd:(y- x) * p2 J≤1):Far p x y∨Far q x y:=by
 have one:∀(u:List Rat) (k:Rat) (h:Nat),k≠0→HtF (coP u) k h→(aj u).length≤m→sF (n+1) m n h g r=sF (n+1) m n h g r→∀F,F+(h+(r+2) * m)+1≤J→1≤ab (k* af u x) * p2 F→Far u x y:=fun u k h k0 f a _ F b h1=>by
  have dv:Dv u (aL (aj u) k):=⟨[k],fun x=>by rw[aR,cg,aE,aM];grind⟩;refine Far.dv (HY (U:=aL (aj u) k) (H:=h) (F:=F) (r:=r) (L:=m) (fun c hc=>?_) (Nat.le_trans (dn _ _) a) hx hy ?_ ?_) dv;obtain⟨i,_,e⟩:=mX hc;rw[←e,cS,ce];exact IB.ab (h:=h) (f i);rw[aR,cg,show af u x* k=k* af u x by grind];exact h1;have:=Rat.mul_le_mul_of_nonneg_left (eU b) (show 0≤y- x by grind);grind
 rcases low (n+1) m n h g r p q k l (by omega) hm hn hnm nq k0 l0 hp hq hco x hx with h1|h1
 exact .inl (one p k h k0 hp (by omega) rfl _ hJ1 h1);grind
theorem Far.ext{p:List Rat}{x y:Rat}(h:Far p x y)(hxy:x≤y):∃δ:Rat,0< δ∧Far p (x- δ) (y+δ):=by
 obtain⟨e,q,hf⟩:=h;have i:0≤ab x+ab y+1:=by have:=lH x y;grind
 have l:=sE i p;obtain⟨d,d0,d1⟩:=part (e/ 2) (d:=bL (ab x+ab y+1) p+1) (by grind) (by grind);obtain⟨δ,e0,e1,e2⟩:=less d 1 d0 (by grind);refine⟨δ,e0,e/ 2,by grind,fun z a b=>?_⟩
 have f:∀w,x- 1≤w→w≤y+1→ab w≤ab x+ab y+1:=fun w k j=>by
  have n:=ab_le (x:=x) (c:=ab x)|>.1 (by grind);have o:=ab_le (x:=y) (c:=ab y)|>.1 (by grind);have:=cZ x;have:=cZ y;exact ab_le.2 ⟨by grind,by grind⟩
 obtain⟨w,k,j,m⟩:∃w,x≤w∧w≤y∧ab (z- w)≤δ:=by
  by_cases g1:z≤x;exact⟨x,by grind,hxy,ab_le.2 ⟨by grind,by grind⟩⟩;by_cases g2:z≤y;exact⟨z,by grind,g2,ab_le.2 ⟨by grind,by grind⟩⟩;exact⟨y,hxy,by grind,ab_le.2 ⟨by grind,by grind⟩⟩
 have q1:=iG i (f w (by grind) (by grind)) (f z (by grind) (by grind)) p;have q2:=Rat.mul_le_mul_of_nonneg_left (show ab (z- w)≤d by grind) l;have q3:=ab_le.1 (show ab (af p z- af p w)≤e/ 2 by grind);rcases qu (hf w k j) with g|g
 exact ls (.inl (by grind)) (by grind);exact ls (.inr (by grind)) (by grind)
theorem Far.join{p:List Rat}{x y z w:Rat}(h1:Far p x y)(h2:Far p z w)(h:z≤y):Far p x w:=by
 obtain⟨e,c,hf⟩:=h1;obtain⟨g,hg,hG⟩:=h2;obtain⟨d,d0,d1,d2⟩:=less e g c hg;refine⟨d,d0,fun u a b=>?_⟩;grind
theorem Sq.one{u:List Rat}{L:List (List Rat)}(H:Sq u L){x y:Rat}(hxy:x≤y)(hF:Far (aN u) x y):chV (u::L) x- chV (u::L) y≤1:=by
 cases L with
 |nil=>rw[oY,oY];decide
 |cons v M=>
  obtain⟨k,i,j⟩:=H.2 v M rfl;have hv:Far v x y:=hF.k (k:=k) (by grind) fun z=>by rw[bY];grind
  have c:Ch v M:=by
   cases H.1 with
   |pair h=>exact h
   |step _ _ _ h=>exact h
  have hs:=hv.sg hxy (by grind);obtain⟨e,d,hf⟩:=hv;have t:=c.same d hxy hf
  have g:sgE x v=1∨sgE x v= -1:=by
   have:=sgE_ne.2 (Far.ne ⟨e,d,hf⟩ (show x≤x by grind) hxy);have:=fa x v;omega
  have a:=sk (l:=M.map (sgE x)) g (fa x u);have b:=sk (l:=M.map (sgE y)) (by grind:sgE y v=1∨sgE y v= -1) (fa y u);unfold chV at *
  have f:∀(s:Int) (l:List Int),s≠0→chL (s::l) 0 0=chL l 0 s:=fun s l h=>by rw[chL,if_pos h,if_neg (by omega)]
  grind
section
variable {f:Nat}{p:List Rat}{c:Cnt}(h:gx f p=some c)(hp:nz p)
include h hp
theorem GG{x y:Rat}(hxy:x≤y)(hF:Far (aN c.p) x y):bZ c y≤aZ c x+1:=by
 obtain⟨g,i,L,k,e,m,j,b⟩:=ko h hp;have d:k≠0:=by grind
 obtain⟨δ,d0,l⟩:=hF.ext hxy;have f:Far (aN (bU c.p)) (x- δ) y:=(l.sub (by grind) (by grind)).k d fun z=>by rw[bY,bY,yw j]
 have h1:=b.one (by grind) f;have a:=eY h hp (show x- δ< x by grind);unfold bZ at a⊢;rw[e] at *
 unfold chV at h1;omega
def At(c:Cnt)(i:Int)(x y:Rat):Prop:=x≤y∧aZ c x≤i∧i< bZ c y
theorem sH{i:Int}{x y x' y':Rat}(a:At c i x y)(b:At c i x' y'):∃u v,x≤u∧x'≤u∧v≤y∧v≤y'∧At c i u v:=by
 have d:∀u v,aZ c u≤i→i< bZ c v→u≤v:=fun u v h1 j=>by
  by_cases g:u≤v;exact g;have:=eY h hp (show v< u by grind);omega
 obtain⟨u,u1,u2,e⟩:∃u,x≤u∧x'≤u∧aZ c u≤i:=by
  by_cases g:x≤x';exact⟨x',g,by grind,b.2.1⟩;exact⟨x,by grind,by grind,a.2.1⟩
 obtain⟨v,v1,v2,f⟩:∃v,v≤y∧v≤y'∧i< bZ c v:=by
  by_cases g:y≤y';exact⟨y,by grind,g,a.2.2⟩;exact⟨y',by grind,by grind,b.2.2⟩
 exact⟨u,v,u1,u2,v1,v2,d u v e f,e,f⟩
theorem at_not{i:Int}{x y:Rat}(a:At c i x y):¬Far p x y:=fun g=>by
 have:=(gV h hp a.1).2 g;have:=a.2.1;have:=a.2.2;omega
omit h hp in
def Sgn(c:Cnt)(i:Int)(q:List Rat)(t:Int):Prop:=∃x y,At c i x y∧Far q x y∧sgE x q=t
theorem AU{i:Int}{q:List Rat}{s t:Int}(a:Sgn c i q s)(b:Sgn c i q t):s=t:=by
 obtain⟨x,y,f,g,rfl⟩:=a;obtain⟨z,w,b1,b2,rfl⟩:=b;obtain⟨u,v,h1,e,k,j,d⟩:=sH h hp f b1;rw[←g.sg h1 (by have:=d.1;grind),←b2.sg e (by have:=d.1;grind)]
theorem xe{i:Int}{x y:Rat}(a:At c i x y){d:Rat}(hd:0< d):∃u v,x≤u∧v≤y∧v- u≤d∧At c i u v:=by
 have b:∀(n:Nat) (x y:Rat),At c i x y→y- x≤((n:Int):Rat) * d→∃u v,x≤u∧v≤y∧v- u≤d∧At c i u v:=fun n=>by
  induction n with
  |zero=>
   grind
  |succ n f=>
   intro x y a e;by_cases g:y- x≤d;exact⟨x,y,by grind,by grind,g,a⟩;by_cases g2:i< bZ c (x+d);exact⟨x,x+d,by grind,by grind,by grind,by grind,a.2.1,g2⟩;have b1:aZ c (x+d)≤i:=by have:=(fi (c:=c) h hp (x+d)).1;omega
   obtain⟨u,v,h1,j,m,k⟩:=f (x+d) y ⟨by grind,b1,a.2.2⟩ (by grind);grind
 obtain⟨n,l⟩:=arch (y- x) hd;grind
theorem CY{i:Int}{x y:Rat}(a:At c i x y)(h1:bZ c y≤aZ c x+1){P q G:List Rat}(hP1:∀x y,At c i x y→¬Far P x y)(hP2:∀x y,x≤y→bZ c y=aZ c x→Far P x y)(gp:Dv G P)(gq:Dv G q)(hb:∃u v:List Rat,∀z,af G z=af u z* af P z+af v z* af q z):
    Far G x y↔∃t,Sgn c i q t:=by
 obtain⟨m,n,r⟩:=a;constructor;rintro⟨e,M,hf⟩;obtain⟨u,v,hb⟩:=hb;have f:=lH x y;have B:=mA f u;have D:=sE f P;obtain⟨ε,ε0,ε1⟩:=part (e/ 4) (d:=bV (ab x+ab y) u+1) (by grind) (by grind);obtain⟨δ,o,K⟩:=part ε (d:=bL (ab x+ab y) P+1) ε0 (by grind);obtain⟨z,w,N,L,H,l⟩:=xe h hp ⟨m,n,r⟩ o
 -- p is small there
 have k:∃s,z≤s∧s≤w∧ab (af P s)< ε:=by
  apply Classical.byContradiction;intro O;refine hP1 z w l ⟨ε,ε0,fun s s1 s2=>?_⟩;grind
 obtain⟨s,s1,s2,F⟩:=k;have b:∀t,z≤t→t≤w→ab t≤ab x+ab y:=fun t t1 t2=>iY (by grind) (by grind)
 have C:Far q z w:=by
  refine Far.dv (p:=aJ v q) ⟨e/ 2,by grind,fun t t1 t2=>?_⟩ ⟨v,fun x=>bh v q x⟩;have q1:=iG f (b s s1 s2) (b t t1 t2) P;have q2:=Rat.mul_le_mul_of_nonneg_left (show ab (t- s)≤δ from ab_le.2 ⟨by grind,by grind⟩) D;have q3:=ik (af P t- af P s) (af P s);rw[show af P t- af P s+af P s=af P t by grind] at q3;have q4:ab (af P t)≤2* ε:=by grind
  have q5:=dw (fE f (b t t1 t2) u) q4 (cZ _) B;have q6:=hf t (by grind) (by grind);rw[hb] at q6;have q7:=ik (af u t* af P t) (af v t* af q t);rw[cM (af u t)] at q7;rw[bh];grind
 exact⟨_,z,w,l,C,rfl⟩;rintro⟨t,z,w,b1,b2,_⟩;obtain⟨u,v,u1,u2,v1,v2,j⟩:=sH h hp ⟨m,n,r⟩ b1;obtain⟨E,J,hv⟩:=j;have hG:Far G u v:=(b2.sub u2 v2).dv gq;obtain⟨δ,o,A⟩:=hG.ext E
 have left:Far G x (v+δ):=by
  by_cases g:u- δ/ 2≤x;exact A.sub (by grind) (by grind);have q1:=eY h hp (show u- δ/ 2< u by grind)
  have q2:bZ c (u- δ/ 2)=aZ c x:=by
   have:=gP h hp (show x≤u- δ/ 2 by grind);have:=(fi (c:=c) h hp x).1;omega
  have q3:=hP2 _ _ (show x≤u- δ/ 2 by grind) q2;exact(q3.dv gp).join A (by grind)
 by_cases g:y≤v+δ/ 2;exact left.sub (by grind) (by grind);have q1:=eY h hp (show v< v+δ/ 2 by grind)
 have q2:bZ c y=aZ c (v+δ/ 2):=by
  have:=gP h hp (show v+δ/ 2≤y by grind);have:=(fi (c:=c) h hp (v+δ/ 2)).1;omega
 have q3:=hP2 _ _ (show v+δ/ 2≤y by grind) q2;exact left.join (q3.dv gp) (by grind)
end
def sZ(f:Nat→Int):Nat→Int
 |0=>0
 |n+1=>sZ f n+f n
theorem Hm{c:Int}{f:Nat→Int}:∀{n:Nat},(∀a,a< n→c∣f a)→c∣sZ f n
 |0,_=>Int.dvd_zero _
 |n+1,h=>Int.dvd_add (Hm fun a ha=>h a (by omega)) (h n (by omega))
theorem Hl{c:Int}{f:Nat→Int}{i:Nat}:∀{n:Nat},c∣sZ f n→i< n→(∀a,a< n→a≠i→c∣f a)→c∣f i
 |0,_,hi,_=>by omega
 |n+1,h,hi,ho=>by
  by_cases e:i=n;subst e;exact(Int.dvd_iff_dvd_of_dvd_add h).1 (Hm fun a ha=>ho a (by omega) (by omega));have h1:=ho n (by omega) (by omega);exact Hl ((Int.dvd_iff_dvd_of_dvd_add h).2 h1) (by omega) fun a ha=>ho a (by omega)
theorem Hk{c k:Int}{f g:Nat→Int}:∀{n:Nat},(∀a,a< n→c∣f a- k* g a)→c∣sZ f n- k* sZ g n
 |0,_=>by simp[sZ]
 |n+1,h=>by
  have h1:=Hk (f:=f) (g:=g) (k:=k) (c:=c) (n:=n) fun a ha=>h a (by omega);have b:=h n (by omega);have:=Int.dvd_add h1 b;rw[sZ,sZ];grind
def cvZ(f g:Nat→Int)(n:Nat):Int:=sZ (fun a=>f a* g (n- a)) (n+1)
theorem I7{c:Int}{f:Nat→Int}{N:Nat}(hf:∀i,N≤i→f i=0)(hc:∀r:Int,(∀i,c∣r* f i)→c∣r):∀(M:Nat) (g:Nat→Int),(∀j,M≤j→g j=0)→(∀n,c∣cvZ f g n)→∀j,c∣g j
 |0,g,hg,_,j=>by simp_all
 |M+1,g,hg,h,j=>by
  have l:∀k i,i+k+1=N∨N≤i→∀j,c∣f i* g j:=by
   intro k
   induction k using Nat.strongRecOn with
   |_ k o=>
   intro i d;rcases d with d|d
   rotate_left;intro j;rw[hf i d,Int.zero_mul];exact Int.dvd_zero _
   have up:∀b,i< b→∀j,c∣f b* g j:=by
    intro b q;by_cases e:N≤b;intro j;rw[hf b e,Int.zero_mul];exact Int.dvd_zero _;exact o (N- b- 1) (by omega) b (.inl (by omega))
   have top:c∣f i* g M:=by
    have:=Hl (i:=i) (h (i+M)) (by omega) fun a ha m=>by
     by_cases e:a< i;show c∣f a* g (i+M- a);rw[hg (i+M- a) (by omega),Int.mul_zero];exact Int.dvd_zero _;grind
    grind
   have rest:=I7 hf hc M (fun j=>if j< M then f i* g j else 0) (fun j p=>if_neg (by omega)) fun n=>by
    have e:=Hk (c:=c) (k:=f i) (f:=fun a=>f a* (if n- a< M then f i* g (n- a) else 0)) (g:=fun a=>f a* g (n- a)) (n:=n+1) fun a ha=>by
     show c∣f a* (if n- a< M then f i* g (n- a) else 0)- f i* (f a* g (n- a));by_cases e:n- a< M;rw[if_pos e,show f a* (f i* g (n- a))- f i* (f a* g (n- a))=0 by grind];exact Int.dvd_zero _;rw[if_neg e];by_cases e2:n- a=M;rw[e2,show f a* 0- f i* (f a* g M)=f i* g M* -f a by grind];exact Int.dvd_mul_of_dvd_left top;rw[hg (n- a) (by omega),show f a* 0- f i* (f a* 0)=0 by grind];exact Int.dvd_zero _
    have e2:c∣f i* sZ (fun a=>f a* g (n- a)) (n+1):=Int.dvd_mul_of_dvd_right (h n);have:=Int.dvd_add e e2;rwa[Int.sub_add_cancel] at this
   grind
  refine hc _ fun i=>?_;rw[Int.mul_comm];by_cases e:N≤i;rw[hf i e,Int.zero_mul];exact Int.dvd_zero _;exact l (N- i- 1) i (.inl (by omega)) j
def gZ(f:Nat→Int):Nat→Nat
 |0=>0
 |n+1=>Nat.gcd (gZ f n) (f n).natAbs
theorem Il{f:Nat→Int}:∀{n i:Nat},i< n→gZ f n∣(f i).natAbs
 |n+1,i,h=>by
  by_cases e:i=n;rw[e];exact Nat.gcd_dvd_right _ _;exact Nat.dvd_trans (Nat.gcd_dvd_left _ _) (Il (by omega))
theorem IZ{c k:Nat}{f:Nat→Int}:∀{n:Nat},(∀i,i< n→c∣k* (f i).natAbs)→c∣k* gZ f n
 |0,_=>by simp[gZ]
 |n+1,h=>by
  rw[gZ,←Nat.gcd_mul_left];exact Nat.dvd_gcd (IZ fun i a=>h i (by omega)) (h n (by omega))
theorem EO{p:List Rat}(hp:nz p):∃(κ:Rat) (f:Nat→Int),κ≠0∧(∀i,coP p i* κ=(f i:Rat))∧(∀i,p.length≤i→f i=0)∧∀c r:Int,(∀i,c∣r* f i)→c∣r:=by
 obtain⟨k,q,n⟩:=Ht.of (p:=p) (s:=mxL p) (fj p);obtain⟨z,j⟩:∃z:Nat→Int,∀i,coP p i* k=(z i:Rat):=⟨fun i=>(n i).choose,fun i=>(n i).choose_spec.1⟩
 have t:∀i,p.length≤i→z i=0:=fun i l=>by
  have:=j i;rw[ef l,Rat.zero_mul] at this;exact(Rat.intCast_inj.1 (this.symm.trans Rat.intCast_zero.symm))
 obtain⟨d,m⟩:∃d,d=gZ z p.length:=⟨_,rfl⟩
 have dv:∀i,(d:Int)∣z i:=fun i=>by
  by_cases e:i< p.length;have:=Il (f:=z) e;rw[←m] at this;exact Int.ofNat_dvd_left.2 this;simp_all
 have d0:d≠0:=fun e=>by
  have zz:∀i,z i=0:=fun i=>by have:=dv i;rw[e] at this;grind
  apply hp;refine trim_nil_iff.2 fun i=>?_;have:=j i;rw[zz,Rat.intCast_zero] at this;grind
 have g:((d:Int):Rat)≠0:=fun e=>d0 (by simp_all);refine⟨k/ (d:Int),fun i=>z i/ d,fun e=>?_,fun i=>?_,fun i l=>by simp_all,fun c r h=>?_⟩;have:=Rat.div_mul_cancel (a:=k) g;rw[e] at this;grind;obtain⟨w,b⟩:=dv i;have e1:z i/ d=w:=by simp_all
 have e2:=j i;rw[b,Rat.intCast_mul] at e2;have v:=Rat.div_mul_cancel (a:=k) g;show _=(((z i/ d:Int)):Rat);rw[e1];generalize k/ (d:Int)=u at *
 have:(coP p i* u- w) * ((d:Int):Rat)=0:=by grind
 rcases Rat.mul_eq_zero.1 this with h|h
 grind;exact absurd h g
 -- the numbers z i/ d have no common divisor
 have h1:c.natAbs* d∣r.natAbs* gZ z p.length:=IZ fun i l=>by
  have this:c∣r* (z i/ d):=h i;obtain⟨w,b⟩:=dv i;rw[b,Int.mul_ediv_cancel_left _ (by omega)] at this;have o:=Int.natAbs_dvd_natAbs.2 this;rw[Int.natAbs_mul] at o;rw[b,Int.natAbs_mul,Int.natAbs_natCast,Nat.mul_comm d,←Nat.mul_assoc];exact Nat.mul_dvd_mul_right o d
 rw[←m] at h1;exact Int.natAbs_dvd_natAbs.1 (Nat.dvd_of_mul_dvd_mul_right (by omega) h1)
theorem B8{p q:List Rat}{κ l:Rat}{f g:Nat→Int}(hf:∀i,coP p i* κ=(f i:Rat))(hg:∀i,coP q i* l=(g i:Rat))(n:Nat):∀N,N≤n+1→eW p q N n* (κ* l)=((sZ (fun a=>f a* g (n- a)) N:Int):Rat)
 |0,_=>by show 0* _=_;rw[Rat.zero_mul];rfl
 |N+1,h=>by
  have b:=B8 hf hg n N (by omega);rw[eW,sZ,Rat.intCast_add,Rat.intCast_mul];grind
theorem wL(p q:List Rat)(n:Nat):∀k,eW p q (p.length+k) n=eW p q p.length n
 |0=>rfl
 |k+1=>by
  rw[show p.length+(k+1)=p.length+k+1 by omega,eW,wL p q n k,ef (show p.length≤p.length+k by omega)];grind
theorem wM(p q:List Rat)(n:Nat):∀k,eW p q (n+1+k) n=eW p q (n+1) n
 |0=>rfl
 |k+1=>by rw[show n+1+(k+1)=n+1+k+1 by omega,eW,wM p q n k];grind
theorem coP_cv{p q:List Rat}{κ l:Rat}{f g:Nat→Int}(hf:∀i,coP p i* κ=(f i:Rat))(hg:∀i,coP q i* l=(g i:Rat))(n:Nat):coP (aJ p q) n* (κ* l)=((cvZ f g n:Int):Rat):=by
 rw[si]
 have:eW p q p.length n=eW p q (n+1) n:=by
  rw[←wL p q n (n+1),←wM p q n p.length,show p.length+(n+1)=n+1+p.length by omega]
 rw[this];exact B8 hf hg n (n+1) (Nat.le_refl _)
theorem zo(t:Rat):(t.num:Rat)=t* ((t.den:Int):Rat):=by
 have h:Rat.divInt t.num t.den=t:=Rat.num_divInt_den t;rw[Rat.divInt_eq_div] at h;have a:((t.den:Int):Rat)≠0:=fun e=>by have:=Rat.intCast_inj.1 (e.trans Rat.intCast_zero.symm);have:=t.den_pos;omega
 grind
theorem I0{p s g:List Rat}(hp:nz p)(e:∀x,af p x=af s x* af g x){k:Rat}(k0:k≠0)(hk:∀i,∃z:Int,coP p i* k=(z:Rat)):
    ∃(κ:Rat) (f:Nat→Int),κ≠0∧(∀i,coP s i* κ=(f i:Rat))∧∀n:Int,af p (n:Rat)≠0→ab (af s (n:Rat) * κ)≤ab (af p (n:Rat) * k):=by
 obtain⟨H,L⟩:=jf e hp;obtain⟨κ,f,M,hf,J,r⟩:=EO H;obtain⟨l,h,R,F,Q,D⟩:=EO L;obtain⟨z,G⟩:∃z:Nat→Int,∀i,coP p i* k=(z i:Rat):=⟨fun i=>(hk i).choose,fun i=>(hk i).choose_spec⟩
 have u:∀i,coP p i* (κ* l)=((cvZ f h i:Int):Rat):=fun i=>by
  rw[←coP_cv hf F i];congr 1;exact trim_iff.1 (jO fun x=>by rw[e,bh]) i
 -- k/ (κ l) in lowest terms
 obtain⟨t,ht⟩:∃t:Rat,t* (κ* l)=k:=⟨k/ (κ* l),Rat.div_mul_cancel fun e=>by grind⟩
 have A:∀i,z i* (t.den:Int)=t.num* cvZ f h i:=fun i=>by
  have h1:=G i;rw[←ht,show coP p i* (t* (κ* l))=t* (coP p i* (κ* l)) by grind,u] at h1;have C:=zo t
  have o:((z i* (t.den:Int):Int):Rat)=((t.num* cvZ f h i:Int):Rat):=by
   grind
  exact Rat.intCast_inj.1 o
 have m:∀i,((t.den:Int))∣cvZ f h i:=fun i=>by
  have h1:(t.den:Int)∣t.num* cvZ f h i:=⟨z i,by rw[←A,Int.mul_comm]⟩;have C:=Int.natAbs_dvd_natAbs.2 h1;rw[Int.natAbs_mul,Int.natAbs_natCast] at C;have o:=Nat.Coprime.dvd_of_dvd_mul_left (Nat.Coprime.symm t.reduced) C;exact Int.ofNat_dvd_left.2 o
 have c:=I7 J (r (t.den:Int)) g.length h Q m;have d:(t.den:Int)∣1:=D _ 1 fun i=>by rw[Int.one_mul];exact c i
 have j:t.den=1:=by have:=Int.le_of_dvd (by decide) d;have:=t.den_pos;omega
 have y:t=(t.num:Rat):=by
  have:=zo t;rw[j,show(((1:Nat):Int):Rat)=1 from rfl] at this;grind
 have K:t≠0:=fun e=>k0 (by rw[←ht,e];grind);refine⟨κ,f,M,hf,fun n O=>?_⟩
 -- the value of the other factor is a whole number that is not 0
 have b:∀(q:List Rat) (μ:Rat),(∀i,∃w:Int,coP q i* μ=(w:Rat))→∃w:Int,af q (n:Rat) * μ=(w:Rat):=fun q=>by
  induction q with
  |nil=>exact fun μ _=>⟨0,by rw[aM,Rat.zero_mul];rfl⟩
  |cons a q N=>
   intro μ hμ;obtain⟨w,E⟩:=N μ fun i=>by have:=hμ (i+1);rwa[dm] at this
   obtain⟨v,hv⟩:=hμ 0;rw[dA] at hv;exact⟨w* n+v,by rw[aE,Rat.intCast_add,Rat.intCast_mul,←E,←hv];grind⟩
 obtain⟨w,E⟩:=b g l fun i=>⟨h i,F i⟩
 have e1:af p (n:Rat) * k=af s (n:Rat) * κ* (((t.num* w:Int)):Rat):=by
  rw[Rat.intCast_mul,←E,←y,←ht,e];grind
 have B:t.num* w≠0:=fun g=>by
  rw[g,Rat.intCast_zero,Rat.mul_zero] at e1;rcases Rat.mul_eq_zero.1 e1 with g|g
  exact O g;exact k0 g
 have one:1≤ab (((t.num* w:Int)):Rat):=IB.one_le (h:=bl (t.num* w).natAbs) ⟨_,rfl,Nat.le_refl _⟩ fun g=>B (Rat.intCast_inj.1 (g.trans Rat.intCast_zero.symm));rw[e1,cM (af s (n:Rat) * κ)];have:=Rat.mul_le_mul_of_nonneg_left one (cZ (af s (n:Rat) * κ));grind
end Go.Abs
