/- Part Z11 of the proof. -/
import Derived.Test.YtdjfjpeoddmamaaGreatDoorZ10
import Derived.Lib.ItoaNum
set_option linter.all false
namespace Go.Abs
theorem sm_(p q:List Rat):(divP p q).1.length≤(trimQ p).length+1- (trimQ q).length:=by
 have h1:=eb_ (trimQ q) (leadP q) ((trimQ p).length+1- (trimQ q).length) (List.replicate ((trimQ p).length+1- (trimQ q).length) 0) (trimQ p)
 have h3:=aI_ (divR (trimQ q) (leadP q) ((trimQ p).length+1- (trimQ q).length) (List.replicate ((trimQ p).length+1- (trimQ q).length) 0) (trimQ p)).1
 rw[h1.1,List.length_replicate] at h3
 exact h3
theorem d4_(p q:List Rat):(mulP p q).length≤p.length+q.length- 1:=by
 by_cases h:p=[]
 subst h;unfold mulP;simp
 exact gC_ p q h
def zB:Nat→Nat→Nat→Nat→Nat→Nat→Nat→Nat→Nat→Nat→Nat→Bool
 |0,_,_,_,_,_,_,_,_,_,_=>false
 |f+1,m,n,s,t,u,v,la,lc,X,W=>if n=0 then decide (s≤X) && decide (u≤X) && decide (la≤W) else
  decide (2^ (m+1- n) * (s+2* t+1)≤137438953472) && decide ((m+1- n) * (2^ (m+1- n) * (s+2* t+1)+v+1)+1≤137438953472) && decide (u≤137438953472) && decide (v≤137438953472) && decide (la+lc+m≤1000) &&
  (List.range n).all fun k=>zB f n k t (2^ (m+1- n) * (s+2* t+1)) v (u+((m+1- n) * (2^ (m+1- n) * (s+2* t+1)+v+1)+1)+1) lc (max la (m+1- n+lc- 1)) X W
theorem pD_:∀f m n s t u v la lc X W (g nx a c:List Rat),zB f m n s t u v la lc X W=true→(trimQ g).length=m→(trimQ nx).length=n→bdL g s→bdL nx t→bdL a u→bdL c v→a.length≤la→c.length≤lc→1≤s→1≤t→1≤u→1≤v→g.length≤1000→nx.length≤1000→
    ∃G A,bzL f g nx a c=some (G,A)∧bdL G X∧bdL A X∧A.length≤W∧G.length≤1000
 |0,_,_,_,_,_,_,_,_,_,_,_,_,_,_,h,_,_,_,_,_,_,_,_,_,_,_,_,_,_=>by rw[zB] at h;cases h
 |f+1,m,n,s,t,u,v,la,lc,X,W,g,nx,a,c,h,hm,hn,hg,hx,ha,hc,hla,hlc,hs,ht,hu,hv,hgl,hxl=>by
  rw[zB] at h
  rw[bzL]
  by_cases h0:n=0
  rw[if_pos h0] at h
  simp only[Bool.and_eq_true,decide_eq_true_eq] at h
  have e:trimQ nx=[]:=List.length_eq_zero_iff.1 (by omega)
  rw[if_pos e]
  exact⟨g,a,rfl,fun x hx=>Nat.le_trans (hg x hx) h.1.1,fun x hx=>Nat.le_trans (ha x hx) h.1.2,by omega,hgl⟩
  rw[if_neg h0] at h
  simp only[Bool.and_eq_true,decide_eq_true_eq,List.all_eq_true,List.mem_range] at h
  obtain⟨⟨⟨⟨⟨c1,c2⟩,c3⟩,c4⟩,c5⟩,ck⟩:=h
  have hq0:trimQ nx≠[]:=fun e=>by rw[e] at hn;simp at hn;omega
  rw[if_neg hq0]
  have hL1:1≤2^ (m+1- n) * (s+2* t+1):=Nat.mul_pos (Nat.two_pow_pos _) (by omega)
  obtain⟨d1,d2⟩:=ex_ (L:=2^ (m+1- n) * (s+2* t+1)) hg hx hs ht hq0 (by rw[hm,hn];exact Nat.le_refl _)
  have hql:=sm_ g nx
  rw[hm,hn] at hql
  have hmm:=fh_ d1 hc hL1 hv
  have hmml:=d4_ (divP g nx).1 c
  generalize hL:2^ (m+1- n) * (s+2* t+1)=L at *
  have hmb:bdL (mulP (divP g nx).1 c) ((m+1- n) * (L+v+1)+1):=fun x hx=>Nat.le_trans (hmm x hx) (by have:=Nat.mul_le_mul_right (L+v+1) hql;omega)
  have mg:=bP_ hg hs
  have mn:=bP_ hx ht
  have mk:=bP_ d1 hL1
  have mc:=bP_ hc hv
  have hrl:=(eZ_ (p:=g) (q:=nx)).2
  have hok:okBs g nx a c∧nx.length≤1099511627776:=by
   refine⟨⟨⟨?_,by omega,by omega⟩,⟨?_,by omega,by omega,by omega⟩,fun q hq=>Nat.le_trans (ha q hq) c3,fun q hq=>Nat.le_trans (hmb q hq) c2,by omega,by omega⟩,by omega⟩
   rw[hm,hn]
   have:=Nat.mul_le_mul_left (2^ (m+1- n)) (show mxL g+2* mxL nx+1≤s+2* t+1 by omega)
   omega
   have:=Nat.mul_le_mul hql (show mxL (divP g nx).1+mxL c+1≤L+v+1 by omega)
   omega
  rw[if_pos hok]
  have hkn:(trimQ (divP g nx).2).length< n:=by rw[←hn];exact(cp_ g nx hq0).2
  refine pD_ f n _ t L v _ lc _ X W nx (divP g nx).2 c _ (ck _ hkn) hn rfl hx d2 hc (lz_ ha hmb hu (by omega)) hlc ?_ ht hL1 hv (by omega) hxl (by omega)
  have:=kh_ a (mulP (divP g nx).1 c)
  omega
theorem pC_:∀f (g nx a c G A p q:List Rat),bzL f g nx a c=some (G,A)→(∃b,∀x,evalP g x=evalP a x* evalP p x+evalP b x* evalP q x)→(∃d,∀x,evalP nx x=evalP c x* evalP p x+evalP d x* evalP q x)→
    Dv G g∧Dv G nx∧∃b,∀x,evalP G x=evalP A x* evalP p x+evalP b x* evalP q x
 |0,_,_,_,_,_,_,_,_,h,_,_=>by cases h
 |f+1,g,nx,a,c,G,A,p,q,h,hb,hd=>by
  rw[bzL] at h
  by_cases h0:trimQ nx=[]
  rw[if_pos h0] at h
  obtain⟨rfl,rfl⟩:g=G∧a=A:=by cases h;exact⟨rfl,rfl⟩
  exact⟨.refl _,.zero _ (el_ fun e=>e h0),hb⟩
  rw[if_neg h0] at h
  split at h
  obtain⟨b,hb⟩:=hb
  obtain⟨d,hd⟩:=hd
  have hm:=(cp_ g nx h0).1
  obtain⟨i1,i2,i3⟩:=pC_ f nx (divP g nx).2 c (subP a (mulP (divP g nx).1 c)) G A p q h ⟨d,hd⟩ ⟨subP b (mulP (divP g nx).1 d),fun x=>by
   have h1:=hm x
   rw[hb,hd] at h1
   rw[bm_,ar_,bm_,ar_];grind⟩
  refine⟨i1.lin i2 (u:=(divP g nx).1) (v:=[1]) fun x=>?_,i1,i3⟩
  rw[←hm x,aB_,aG_];grind
  cases h
theorem kd_{f:Nat}{p q G A B C:List Rat}(h:bzL f p q (cU_ ((1:Int):Rat)) []=some (G,A))(hq:nz q)(hco:∀x,evalP B x* evalP p x+evalP C x* evalP q x=1):
    ∃γ:Rat,γ≠0∧(∀x,evalP G x=γ)∧nz G∧dg G=0∧leadP G=γ∧∃b,∀x,evalP A x* evalP p x+evalP b x* evalP q x=γ:=by
 obtain⟨h1,h2,b,hb⟩:=pC_ f _ _ _ _ G A p q h ⟨[],fun x=>by rw[eX_,aG_];show _=((1:Int):Rat) * _+_;rw[show((1:Int):Rat)=1 from rfl];grind⟩ ⟨[1],fun x=>by rw[aG_,aB_,aG_];grind⟩
 have hG:nz G:=fun e=>by
  obtain⟨w,hw⟩:=h2
  refine hq ((eqv_trim (p:=q) (q:=[])).1 fun x=>?_)
  rw[hw,el_ (p:=G) (fun e'=>e' e),aG_];grind
 have hd:=(h1.lin h2 (r:=[1]) (u:=B) (v:=C) fun x=>by rw[aB_,aG_,hco];grind).dg oM_
 have hd1:dg [1]=0:=by decide+kernel
 have hd0:dg G=0:=by omega
 obtain⟨γ,γ0,hγ⟩:=ma_ hG hd0
 have hl:leadP G=γ:=by
  have e:=(bN_ hG).2
  rw[hd0] at e
  rw[←e,←hγ 0]
  have:trimQ G=trimQ [γ]:=eqv_trim.1 fun x=>by rw[hγ,aB_,aG_];grind
  have e2:=trim_iff.1 this 0
  rw[e2,hγ];rfl
 exact⟨γ,γ0,hγ,hG,hd0,hl,b,fun x=>by rw[←hb,hγ]⟩
theorem sI_{G:List Rat}{γ:Rat}(h0:γ≠0)(hl:leadP G=γ)(hG:∀x,evalP G x=γ):bzG G=[1]:=by
 have e:trimQ (bzG G)=trimQ [1]:=eqv_trim.1 fun x=>by
  unfold bzG
  rw[aA_,hG,hl,aB_,aG_,show((1:Int):Rat)=1 from rfl];grind
 unfold bzG at e⊢
 rw[cb_] at e
 rw[e];decide+kernel
theorem div_one(q:List Rat):(divP q [1]).1=trimQ q:=by
 have h1:nz [1]:=oM_
 obtain⟨m1,m2⟩:=cE_ q h1
 have hd1:dg [1]=0:=by decide+kernel
 have hz:¬nz (md q [1]):=fun e=>by have:=m2 e;omega
 have:trimQ (divP q [1]).1=trimQ q:=eqv_trim.1 fun x=>by
  have:=m1 x
  rw[el_ hz,aB_,aG_] at this
  rw[this];grind
 rw[←this];exact(eg_ q [1]).1.symm
theorem bzA_inv{f:Nat}{p q G A B C:List Rat}(h:bzL f p q (cU_ ((1:Int):Rat)) []=some (G,A))(hq:nz q)(hco:∀x,evalP B x* evalP p x+evalP C x* evalP q x=1):∃w,∀x,evalP (bzA q G A) x* evalP p x=1+evalP w x* evalP q x:=by
 obtain⟨γ,γ0,hγ,hG,hd0,hl,b,hb⟩:=kd_ h hq hco
 unfold bzA
 rw[sI_ γ0 hl hγ,div_one,hl]
 have hq':nz (trimQ q):=by unfold nz;rw[aN_];exact hq
 have m1:=(cE_ (az_ A (((1:Int):Rat) / γ)) hq').1
 refine⟨addP (az_ b (-1/ γ)) (az_ (mulP (divP (az_ A (((1:Int):Rat) / γ)) (trimQ q)).1 p) (-1)),fun x=>?_⟩
 have h1:=m1 x
 have h2:=hb x
 rw[aA_,bh_,show((1:Int):Rat)=1 from rfl] at h1
 unfold md at h1
 rw[bi_,aA_,aA_,ar_]
 generalize evalP (divP (az_ A (((1:Int):Rat) / γ)) (trimQ q)).2 x=w at *
 generalize evalP (divP (az_ A (((1:Int):Rat) / γ)) (trimQ q)).1 x=k at *
 have h3:evalP A x* (1/ γ) * evalP p x=1- evalP b x* evalP q x/ γ:=by
  have:evalP A x* evalP p x=γ- evalP b x* evalP q x:=by grind
  grind
 have h4:evalP A x* (1/ γ) * evalP p x=(k* evalP q x+w) * evalP p x:=by rw[h1]
 grind
def zOK(N s X:Nat):Bool:=
 decide (1≤X) && decide (N≤100) && decide (2^ (N+1) * (s+4* X+10)≤137438953472) && decide (2^ N* ((N+1) * (3* X+4* s+10)+2* X+2* s+10)≤137438953472) &&
 ((List.range (N+1)).all fun m=>(List.range (N+1)).all fun n=>if n≤m then true else zB (N+3) m n s s 1 1 1 0 X (n- 1))
theorem okBz_of{N s X:Nat}(hz:zOK N s X=true){p q B C:List Rat}(hp:bdL p s)(hq:bdL q s)(hs:1≤s)(hpl:p.length< q.length)(hql:q.length≤N)(hq0:nz q)(hqt:trimQ q=q)(hco:∀x,evalP B x* evalP p x+evalP C x* evalP q x=1):
    ∃G A,bzL (N+3) p q (cU_ ((1:Int):Rat)) []=some (G,A)∧okBz p q G A∧bdL (bzA q G A) (2* X+2* s+10)∧(bzA q G A).length< q.length∧bzG G=[1]:=by
 unfold zOK at hz
 simp only[Bool.and_eq_true,decide_eq_true_eq,List.all_eq_true,List.mem_range] at hz
 obtain⟨⟨⟨⟨hX,hN⟩,hS⟩,hT⟩,hB⟩:=hz
 have hqlen:=List.length_pos_iff.2 hq0
 have htp:=aI_ p
 have hqe:(trimQ q).length=q.length:=by rw[hqt]
 have htq:=aI_ q
 have hb:=hB (trimQ p).length (by omega) (trimQ q).length (by omega)
 rw[if_neg (by omega)] at hb
 have c1:cU_ ((1:Int):Rat)=[1]:=by decide+kernel
 obtain⟨G,A,h1,h2,h3,h4,h5⟩:=pD_ (N+3) _ _ s s 1 1 1 0 X _ p q [1] [] hb rfl rfl hp hq (by decide) (by intro x hx;cases hx) (by simp) (by simp) hs hs (by decide) (by decide) (by omega) (by omega)
 rw[←c1] at h1
 obtain⟨γ,γ0,hγ,hG,hd0,hl,b,hbb⟩:=kd_ h1 hq0 hco
 have g1:=sI_ γ0 hl hγ
 have hlq:qs (leadP G)≤X:=hg_ h2 hX
 have q1:qs ((1:Int):Rat)=1:=by decide
 have hqd:=c8_ ((1:Int):Rat) (leadP G)
 have hP:1≤2^ (N+1):=Nat.one_le_two_pow
 have hP2:2^ 2≤2^ (N+1):=Nat.pow_le_pow_right (by decide) (by omega)
 have hS1:=Nat.mul_le_mul_right (s+4* X+10) hP2
 have hsc:bdL (az_ A (((1:Int):Rat) / leadP G)) (2* X+1):=fun x hx=>by
  have:=ht_ (k:=((1:Int):Rat) / leadP G) h3 hX x hx
  omega
 have hscl:=bK_ A (((1:Int):Rat) / leadP G)
 have hsct:=aI_ (az_ A (((1:Int):Rat) / leadP G))
 have hdv:bdL (bzA q G A) (2* X+2* s+10):=by
  unfold bzA
  rw[g1,div_one]
  refine(ex_ hsc (g3_ hq) (by omega) hs (by rw[aN_];exact hq0) ?_).2
  rw[aN_,show(trimQ (az_ A (((1:Int):Rat) / leadP G))).length+1- (trimQ q).length=0 by omega]
  omega
 have hdl:(bzA q G A).length< q.length:=by
  have a:(trimQ (bzA q G A)).length< q.length:=by
   unfold bzA
   rw[g1,div_one]
   have:=(cp_ (az_ A (((1:Int):Rat) / leadP G)) (trimQ q) (by rw[aN_];exact hq0)).2
   rw[aN_,hqt] at this
   rw[hqt];exact this
  have b:trimQ (bzA q G A)=bzA q G A:=(eg_ _ _).2
  rwa[b] at a
 have m1:=bP_ hq hs
 have m2:=bP_ hp hs
 have m3:=bP_ hdv (by omega)
 have m4:=bP_ hsc (by omega)
 have o1:mxL [1]=1:=by decide+kernel
 have t1:trimQ [1]=[1]:=by decide+kernel
 have hmu:=fh_ hdv hp (by omega) hs
 have hmul:=d4_ (bzA q G A) p
 have e1:(bzA q G A).length* (2* X+2* s+10+s+1)≤N* (2* X+2* s+10+s+1):=Nat.mul_le_mul_right _ (by omega)
 have e2:N* (2* X+2* s+10+s+1)≤(N+1) * (3* X+4* s+10):=Nat.mul_le_mul (by omega) (by omega)
 have hP3:1≤2^ N:=Nat.one_le_two_pow
 have hT1:=Nat.mul_le_mul_right ((N+1) * (3* X+4* s+10)+2* X+2* s+10) hP3
 generalize hE:(N+1) * (3* X+4* s+10)=E at *
 have hmb:bdL (mulP (bzA q G A) p) (E+1):=fun x hx=>Nat.le_trans (hmu x hx) (by omega)
 have hsu:=lz_ (p:=[1]) (s:=1) (by intro x hx;rw[List.mem_singleton.1 hx];decide) hmb (by decide) (by omega)
 have m5:=bP_ hsu (by omega)
 have hsul:=kh_ [1] (mulP (bzA q G A) p)
 have hst:=aI_ (subP [1] (mulP (bzA q G A) p))
 simp only[List.length_singleton] at hsul
 have hql2:q.length=(trimQ q).length:=by rw[hqt]
 have e3:2^ ((trimQ q).length+1- (trimQ [1]).length) * (mxL q+2* mxL [1]+1)≤2^ (N+1) * (s+4* X+10):=Nat.mul_le_mul (Nat.pow_le_pow_right (by decide) (by omega)) (by omega)
 have e4:2^ ((trimQ (subP [1] (mulP (bzA q G A) p))).length+1- (trimQ q).length) * (mxL (subP [1] (mulP (bzA q G A) p))+2* mxL q+1)≤2^ N* (E+2* X+2* s+10):=Nat.mul_le_mul (Nat.pow_le_pow_right (by decide) (by omega)) (by omega)
 have e5:(bzA q G A).length* (mxL (bzA q G A)+mxL p+1)≤(bzA q G A).length* (2* X+2* s+10+s+1):=Nat.mul_le_mul_left _ (by omega)
 refine⟨G,A,h1,⟨hG,by omega,by omega,fun x hx=>Nat.le_trans (h2 x hx) (by omega),fun x hx=>Nat.le_trans (h3 x hx) (by omega),by omega,?_,?_,?_,?_,?_,?_,?_,?_,by omega,?_⟩,hdv,hdl,g1⟩
 rw[g1];exact⟨by omega,by omega,by simp⟩
 rw[g1];exact oM_
 rw[g1,div_one,hqt]
 exact⟨by rw[show(trimQ (az_ A (((1:Int):Rat) / leadP G))).length+1- (trimQ q).length=0 by omega];omega,by omega,by omega⟩
 rw[g1,div_one,aN_];exact hq0
 exact⟨by omega,by omega,by omega,by omega⟩
 rw[g1];intro x hx;rw[List.mem_singleton.1 hx];decide
 exact fun x hx=>Nat.le_trans (hmb x hx) (by omega)
 rw[g1];simp
 rw[g1];exact⟨by omega,by omega,by omega⟩
structure Lin (φ:List Rat→Rat):Prop where
 eqv:∀{p q},Eqv p q→φ p=φ q
 add:∀p q,φ (addP p q)=φ p+φ q
 scale:∀p k,φ (az_ p k)=φ p* k
theorem Lin.zero{φ:List Rat→Rat}(H:Lin φ):φ []=0:=by
 have h:=H.scale [] 0
 rw[H.eqv (p:=az_ [] 0) (q:=[]) fun x=>by rw[aA_,aG_];grind] at h
 rw[h];grind
theorem lin_it(a b:Rat):Lin (itP a b):=⟨fun h=>iL_ h a b,rs_ a b,eT_ a b⟩
theorem Lin.ofQ{φ:List Rat→Rat}(H:Lin φ){m:List Rat}{N:Nat}(hm:∀i,i< N→coP m i=φ (gK [1] i))(p:List Rat):∀n,n≤N→n≤p.length→ofQ p m n=φ (p.take n)
 |0,_,_=>H.zero.symm
 |n+1,h1,h2=>by
  rw[Go.Abs.ofQ,Lin.ofQ H hm p n (by omega) (by omega),hm n (by omega),H.eqv (p:=p.take (n+1)) (q:=addP (p.take n) (az_ (gK [1] n) (coP p n))) (fun x=>by
   rw[cM_ _ _ _ (by omega),bi_,aA_,dH_];grind),H.add,H.scale]
  grind
theorem re_{p q r N:List Rat}{u v:Rat}(hN:nz N)(h:∀x,evalP r x=evalP p x* u+evalP q x* v):∀x,evalP (md r N) x=evalP (md p N) x* u+evalP (md q N) x* v:=by
 obtain⟨a1,a2⟩:=cE_ p hN
 obtain⟨b1,b2⟩:=cE_ q hN
 have hl:∀w:List Rat,(nz w→dg w< dg N)→∀i,dg N≤i→coP w i=0:=fun w hw i hi=>by
  by_cases h:nz w
  exact(bN_ h).1.2 i (by have:=hw h;omega)
  exact trim_nil_iff.1 (Classical.not_not.1 h) i
 have:=eS_ (p:=r) (q:=N) (u:=addP (az_ (divP p N).1 u) (az_ (divP q N).1 v)) (v:=addP (az_ (md p N) u) (az_ (md q N) v)) hN (fun x=>by
  rw[h,a1,b1,bi_,bi_,aA_,aA_,aA_,aA_];grind) (fun hz=>by
   refine Nat.lt_of_not_le fun hle=>?_
   have h1:=(bN_ hz).1.1
   rw[dc_,a5_,a5_,hl _ a2 _ hle,hl _ b2 _ hle] at h1
   exact h1 (by grind))
 intro x
 rw[this,bi_,aA_,aA_]
def trP(N g:List Rat):Rat:=coP (md (mulP g (ax_ N)) N) (dg N- 1)
theorem iF_{N:List Rat}(hN:nz N):Lin (trP N) where
 eqv {p q} h:=by
  unfold trP
  rw[rg_ (p:=mulP p (ax_ N)) (p':=mulP q (ax_ N)) (q:=N) (q':=N) (fun x=>by rw[ar_,ar_,h]) fun _=>rfl]
 add p q:=by
  have h:=re_ (p:=mulP p (ax_ N)) (q:=mulP q (ax_ N)) (r:=mulP (addP p q) (ax_ N)) (u:=1) (v:=1) hN fun x=>by rw[ar_,ar_,ar_,bi_];grind
  have e:Eqv (md (mulP (addP p q) (ax_ N)) N) (addP (md (mulP p (ax_ N)) N) (md (mulP q (ax_ N)) N)):=fun x=>by rw[h,bi_];grind
  unfold trP
  rw[trim_iff.1 (eqv_trim.1 e),dc_]
 scale p k:=by
  have h:=re_ (p:=mulP p (ax_ N)) (q:=[]) (r:=mulP (az_ p k) (ax_ N)) (u:=k) (v:=0) hN fun x=>by rw[ar_,ar_,aA_];grind
  have e:Eqv (md (mulP (az_ p k) (ax_ N)) N) (az_ (md (mulP p (ax_ N)) N) k):=fun x=>by rw[h,aA_];grind
  unfold trP
  rw[trim_iff.1 (eqv_trim.1 e),a5_]
theorem trP_md{N g h u:List Rat}(hN:nz N)(e:∀x,evalP g x=evalP u x* evalP N x+evalP h x):trP N g=trP N h:=by
 unfold trP
 refine trim_iff.1 (eqv_trim.1 (md_add (u:=mulP u (ax_ N)) hN fun x=>?_)) _
 rw[ar_,ar_,ar_,e];grind
def eL(N:List Rat):Nat→List Rat
 |0=>ax_ N
 |k+1=>subP (mulP (eL N k) [0,1]) (az_ N (coP (eL N k) (dg N- 1)))
def sL(N:List Rat)(k:Nat):Rat:=coP (eL N k) (dg N- 1)
theorem coP_x(p:List Rat)(j:Nat):coP (mulP p [0,1]) j=lag p j:=by rw[coP_line];grind
theorem eL_mod(N:List Rat):∀k,∃u,∀x,evalP (mulP (gK [1] k) (ax_ N)) x=evalP u x* evalP N x+evalP (eL N k) x
 |0=>⟨[],fun x=>by rw[ar_,dH_,aG_];show x^ 0* _=_+evalP (ax_ N) x;rw[Rat.pow_zero];grind⟩
 |k+1=>by
  obtain⟨u,hu⟩:=eL_mod N k
  refine⟨addP (mulP u [0,1]) (cU_ (coP (eL N k) (dg N- 1))),fun x=>?_⟩
  have h:=hu x
  rw[ar_,dH_] at h
  rw[ar_,dH_,eL,bm_,ar_,aA_,cm_,bi_,ar_,cm_,eX_,Rat.pow_succ]
  grind
theorem eL_deg{N:List Rat}(hN:nz N)(hm:leadP N=1)(h1:1≤dg N):∀k i,dg N≤i→coP (eL N k) i=0
 |0,i,hi=>by rw[eL,bt_,(bN_ hN).1.2 (i+1) (by omega)];grind
 |k+1,i,hi=>by
  rw[eL,ed_,coP_x,a5_]
  cases i with
  |zero=>omega
  |succ i=>
   show coP (eL N k) i- _=0
   by_cases hd:dg N=i+1
   rw[←hd,(bN_ hN).2,hm,hd,Nat.add_sub_cancel];grind
   rw[eL_deg hN hm h1 k i (by omega),(bN_ hN).1.2 (i+1) (by omega)];grind
theorem md_eL{N:List Rat}(hN:nz N)(hm:leadP N=1)(h1:1≤dg N)(k:Nat):Eqv (md (mulP (gK [1] k) (ax_ N)) N) (eL N k):=by
 obtain⟨u,hu⟩:=eL_mod N k
 refine eS_ hN hu fun hz=>Nat.lt_of_not_le fun hle=>(bN_ hz).1.1 (eL_deg hN hm h1 k _ hle)
theorem trP_pow{N:List Rat}(hN:nz N)(hm:leadP N=1)(h1:1≤dg N)(k:Nat):trP N (gK [1] k)=sL N k:=
 trim_iff.1 (eqv_trim.1 (md_eL hN hm h1 k)) _
theorem qL_{N:List Rat}(hN:nz N)(hm:leadP N=1){k:Nat}(hk:k< dg N){S:List Rat}(hS:∀j,j< k→coP S j=sL N j)(hk0:k≠0):sL N k= -(nwA N (dg N) S k (k- 1)):=by
 have key:∀i,i≤k- 1→coP (eL N k) (dg N- 1)=coP (eL N (k- i)) (dg N- 1- i)- (nwA N (dg N) S k i- coP N (dg N- k) * ((k:Int):Rat)):=fun i=>by
  induction i with
  |zero=>intro _;rw[nwA];show coP (eL N k) (dg N- 1)=coP (eL N k) (dg N- 1)- _;grind
  |succ i ih=>
   intro hi
   rw[ih (by omega),nwA,hS (k- (i+1)) (by omega),show k- i=(k- (i+1))+1 by omega,show dg N- 1- i=(dg N- 1- (i+1))+1 by omega,eL,ed_,coP_x,a5_]
   show coP (eL N (k- (i+1))) (dg N- 1- (i+1))- coP N (dg N- 1- (i+1)+1) * sL N (k- (i+1))- _=_
   rw[show dg N- 1- (i+1)+1=dg N- (i+1) by omega]
   grind
 have h:=key (k- 1) (Nat.le_refl _)
 rw[show k- (k- 1)=0+1 by omega,show dg N- 1- (k- 1)=(dg N- 1- k)+1 by omega,eL,ed_,coP_x,a5_] at h
 have h2:coP (eL N k) (dg N- 1)=coP (ax_ N) (dg N- 1- k)- coP N (dg N- 1- k+1) * coP (ax_ N) (dg N- 1)- (nwA N (dg N) S k (k- 1)- coP N (dg N- k) * ((k:Int):Rat)):=h
 unfold sL
 rw[h2,bt_,bt_,show dg N- 1+1=dg N by omega,(bN_ hN).2,hm,show dg N- 1- k+1=dg N- k by omega]
 have e:((dg N:Int):Rat)=(((dg N- k:Nat):Int):Rat)+((k:Int):Rat):=by
  rw[←Rat.intCast_add];congr 1;omega
 rw[e];grind
theorem qf_(a b:List Rat)(j:Nat):coP (a++b) j=if j< a.length then coP a j else coP b (j- a.length):=by
 unfold coP
 rw[List.getD_eq_getElem?_getD,List.getD_eq_getElem?_getD,List.getD_eq_getElem?_getD,List.getElem?_append]
 split <;> rfl
theorem suL_sL{N:List Rat}(hN:nz N)(hm:leadP N=1)(ht:trimQ N=N):∀k,k< dg N→∀j,j≤k→coP (suL N (dg N) k) j=sL N j
 |0,hk,j,hj=>by
  have:j=0:=by omega
  subst this
  show((dg N:Int):Rat)=coP (ax_ N) (dg N- 1)
  rw[bt_,show dg N- 1+1=dg N by omega,(bN_ hN).2,hm];grind
 |k+1,hk,j,hj=>by
  have ih:=suL_sL hN hm ht k (by omega)
  rw[suL,qf_,dh_]
  by_cases h:j< k+1
  rw[if_pos h];exact ih j (by omega)
  have:j=k+1:=by omega
  subst this
  rw[if_neg h,Nat.sub_self]
  show -(nwA N (dg N) (suL N (dg N) k) (k+1) k)=_
  rw[qL_ hN hm hk (S:=suL N (dg N) k) (fun j hj=>ih j (by omega)) (by omega)]
  rfl
theorem apply_tr{N W f:List Rat}(hN:nz N)(hm:leadP N=1)(ht:trimQ N=N)(h1:1≤dg N):ofQ (apR N W f) (suL N (dg N) (dg N- 1)) (apR N W f).length=trP N (mulP W f):=by
 have hs1:=cE_ f hN
 have hs2:=cE_ (mulP W (divP f N).2) hN
 have hlen:(apR N W f).length≤dg N:=by
  have:(trimQ (apR N W f)).length< (trimQ N).length:=(cp_ _ N hN).2
  have e:trimQ (apR N W f)=apR N W f:=(eg_ _ N).2
  rw[e] at this
  unfold dg;omega
 rw[(iF_ hN).ofQ (N:=dg N) (fun i hi=>by rw[trP_pow hN hm h1,suL_sL hN hm ht (dg N- 1) (by omega) i (by omega)]) _ _ hlen (Nat.le_refl _),List.take_length]
 refine((trP_md (u:=addP (divP (mulP W (divP f N).2) N).1 (mulP W (divP f N).1)) hN fun x=>?_):trP N (mulP W f)=_).symm
 have e1:=hs1.1 x
 have e2:=hs2.1 x
 unfold md at e1 e2
 rw[ar_] at e2
 rw[ar_,bi_,ar_]
 show _=_+evalP (apR N W f) x
 unfold apR
 rw[e1]
 grind
theorem gY_(p:List Rat)(u v:Rat)(n:Nat):coP (mulP p [u,v]) n=coP p n* u+lag p n* v:=by
 have e:trimQ (mulP p [u,v])=trimQ (mulP [u,v] p):=cL_ fun x=>by rw[ar_,ar_];grind
 rw[trim_iff.1 e n,gm_]
 show coP (addL (eA_ p u) (0::addL (eA_ p v) (0::[]))) n=_
 rw[cZ_,cB_]
 cases n with
 |zero=>rw[cv_];show _=_+0* v;grind
 |succ m=>
  rw[b1_,cZ_,cB_]
  have:coP [(0:Rat)] m=0:=by cases m <;> rfl
  rw[this];show _+(coP p m* v+0)=_+coP p m* v;grind
theorem nz_line(r:Rat):nz [-r,1]∧dg [-r,1]=1:=by
 have h:=gz_ (p:=[-r,1]) (n:=1) ⟨by show(1:Rat)≠0;decide+kernel,fun i hi=>cr_ (by simp;omega)⟩
 exact⟨h.1,h.2.1⟩
theorem cancel{X Y:List Rat}{r:Rat}(h:∀x,evalP X x* (x- r)=evalP Y x* (x- r)):Eqv X Y:=by
 have hz:¬nz (subP X Y):=fun hz=>by
  have h2:=(sr_ hz (nz_line r).1).1
  refine h2 (trim_nil_iff.2 (hI_ fun x=>?_))
  have:=h x
  rw[ar_,bm_,cm_];grind
 intro x
 have:=el_ hz x
 rw[bm_] at this;grind
def gJ(m:List Rat):Nat→List Rat
 |0=>[]
 |j+1=>coP m j::gJ m j
theorem coP_gJ(m:List Rat):∀j i,coP (gJ m j) i=if i< j then coP m (j- 1- i) else 0
 |0,i=>by rw[if_neg (by omega)];rfl
 |j+1,0=>by rw[if_pos (by omega)];rfl
 |j+1,i+1=>by
  show coP (gJ m j) i=_
  rw[coP_gJ m j i]
  by_cases h:i< j
  rw[if_pos h,if_pos (by omega)];congr 1;omega
  rw[if_neg h,if_neg (by omega)]
def tL(p m:List Rat):Nat→List Rat
 |0=>[]
 |j+1=>addL (tL p m j) (eA_ (gJ m j) (coP p j))
theorem coP_tL(p m:List Rat)(i:Nat):∀j,coP (tL p m j) i=tpV p m i j
 |0=>rfl
 |j+1=>by
  rw[tL,cZ_,cB_,coP_tL p m i j,coP_gJ,tpV]
  by_cases h:i< j
  rw[if_pos h,if_pos h];grind
  rw[if_neg h,if_neg h];grind
theorem qt_(p m:List Rat)(i:Nat):∀j,j≤i+1→tpV p m i j=0
 |0,_=>rfl
 |j+1,h=>by rw[tpV,if_neg (by omega),qt_ p m i j (by omega)]
theorem sc_(p m:List Rat)(x:Rat):evalP (tpQ p m) x=evalP (tL p m p.length) x:=b4_ (fun i=>by
 unfold tpQ
 rw[dI_,coP_tL]
 by_cases h:i< p.length- 1
 rw[if_pos h]
 rw[if_neg h,qt_ _ _ _ _ (by omega)]) x
def GL(x:Rat):Nat→List Rat
 |0=>[]
 |j+1=>addP (az_ (GL x j) x) (gK [1] j)
theorem sY_(x t:Rat):∀j,evalP (GL x j) t* (t- x)=t^ j- x^ j
 |0=>by show(0:Rat) * _=_;rw[Rat.pow_zero,Rat.pow_zero];grind
 |j+1=>by
  have:=sY_ x t j
  rw[GL,bi_,aA_,dH_,Rat.pow_succ,Rat.pow_succ];grind
theorem nq_{φ:List Rat→Rat}(H:Lin φ){m:List Rat}{N:Nat}(hm:∀i,i< N→coP m i=φ (gK [1] i))(p:List Rat)(hp:p.length≤N+1)(x:Rat):evalP (tpQ p m) x=φ (synD p x):=by
 have hG:∀j,j≤N→φ (GL x j)=evalP (gJ m j) x:=fun j=>by
  induction j with
  |zero=>intro _;exact H.zero
  |succ j ih=>intro hj;rw[GL,H.add,H.scale,ih (by omega),←hm j (by omega),gJ,aB_]
 have key:∀j,j≤p.length→φ (synD (p.take j) x)=evalP (tL p m j) x:=fun j=>by
  induction j with
  |zero=>intro _;exact H.zero
  |succ j ih=>
   intro hj
   rw[H.eqv (p:=synD (p.take (j+1)) x) (q:=addP (synD (p.take j) x) (az_ (GL x j) (coP p j))) (cancel (r:=x) fun t=>by
    have a1:=dX_ (p.take (j+1)) x t
    have a2:=dX_ (p.take j) x t
    have a3:=sY_ x t j
    rw[cM_ _ _ _ (by omega),cM_ _ _ _ (by omega)] at a1
    rw[bi_,aA_]
    generalize evalP (synD (p.take (j+1)) x) t=w1 at *
    generalize evalP (synD (p.take j) x) t=w2 at *
    generalize evalP (GL x j) t=w3 at *
    grind),H.add,H.scale,ih (by omega),hG j (by omega),tL,eG_,dE_]
 rw[sc_,←key p.length (Nat.le_refl _),List.take_length]
theorem Mv.top{m m0:List Rat}{c r:Rat}{N:Nat}(H:Mv m m0 c r N){p p0:List Rat}{κ:Rat}(hp:p.length≤N+1)(hp0:p0.length≤N+1)(e:∀y,evalP p (c+r* y)=κ* evalP p0 y)(y:Rat):evalP (tpQ p m) (c+r* y)=κ* evalP (tpQ p0 m0) y:=by
 rw[nq_ (lin_it _ _) H.h p hp,nq_ (lin_it _ _) H.h0 p0 hp0,rr_,iL_ (p:=compP [c,r] (synD p (c+r* y))) (q:=az_ (synD p0 y) (κ/ r)) (cancel (r:=y) fun t=>by
  have a1:=dX_ p (c+r* y) (c+r* t)
  have a2:=dX_ p0 y t
  have h0:=H.r0
  rw[e,e] at a1
  rw[dq_,cm_,aA_]
  generalize evalP (synD p (c+r* y)) (c+r* t)=w1 at *
  generalize evalP (synD p0 y) t=w2 at *
  have:w1* (t- y) * r=κ* (w2* (t- y)):=by grind
  generalize w1* (t- y)=z at *
  have:z=κ* (w2* (t- y)) / r:=by rw[←this];exact(Rat.mul_div_cancel h0).symm
  rw[this];grind),eT_]
 have h0:=H.r0
 generalize itP (-1) 1 (synD p0 y)=z
 grind
theorem wt_uniq {N T W V A B:List Rat} (hN:nz N) (hco:∀x,evalP A x* evalP N x+evalP B x* dvE N x=1) (hW:∃z,∀x,evalP W x* dvE N x=evalP T x+evalP z x* evalP N x) (hV:∃z,∀x,evalP V x* dvE N x=evalP T x+evalP z x* evalP N x)
    (dW:nz W→dg W< dg N) (dV:nz V→dg V< dg N):Eqv W V:=by
 obtain⟨z,hz⟩:=hW
 obtain⟨z',hz'⟩:=hV
 have h1:=eS_ (p:=W) (u:=addP (mulP A (subP W V)) (mulP B (subP z z'))) hN (fun x=>by
  have a:=hz x
  have b:=hz' x
  have c:=hco x
  rw[bi_,ar_,ar_,bm_,bm_]
  generalize evalP W x=w at *
  generalize evalP V x=v at *
  generalize dvE N x=d at *
  generalize evalP N x=n at *
  generalize evalP T x=t at *
  have e1:(w- v) * d=(evalP z x- evalP z' x) * n:=by grind
  have e2:(w- v) * (evalP A x* n+evalP B x* d)=w- v:=by rw[c];grind
  have e3:evalP B x* ((w- v) * d)=evalP B x* ((evalP z x- evalP z' x) * n):=by rw[e1]
  grind) dV
 have h2:=rf_ hN dW
 intro x
 rw[←h2,h1]
theorem wt_spec{N T iv:List Rat}(hN:nz N){w:List Rat}(h:∀x,evalP iv x* dvE N x=1+evalP w x* evalP N x):(∃z,∀x,evalP (divP (mulP T iv) N).2 x* dvE N x=evalP T x+evalP z x* evalP N x)∧(nz (divP (mulP T iv) N).2→dg (divP (mulP T iv) N).2< dg N):=by
 obtain⟨m1,m2⟩:=cE_ (mulP T iv) hN
 refine⟨⟨subP (mulP T w) (mulP (divP (mulP T iv) N).1 (ax_ N)),fun x=>?_⟩,m2⟩
 have a:=m1 x
 have b:=h x
 unfold md at a
 rw[ar_] at a
 rw[bm_,ar_,ar_,br_]
 generalize evalP (divP (mulP T iv) N).2 x=u at *
 generalize evalP (divP (mulP T iv) N).1 x=k at *
 generalize evalP iv x=i at *
 generalize dvE N x=d at *
 have e:evalP T x* (i* d)=evalP T x* (1+evalP w x* evalP N x):=by rw[b]
 have e2:evalP T x* i* d=(k* evalP N x+u) * d:=by rw[a]
 grind
def bN:Nat→List Rat
 |1=>[0,1]
 |2=>[mkRat (-1) 3,0,1]
 |3=>[0,mkRat (-3) 5,0,1]
 |4=>[mkRat 3 35,0,mkRat (-6) 7,0,1]
 |_=>[1]
def bWt:Nat→List Rat
 |1=>[2]
 |2=>[1]
 |3=>[mkRat 8 9,0,mkRat (-5) 9]
 |4=>[mkRat 17 24,0,mkRat (-35) 72]
 |_=>[]
def bA:Nat→List Rat
 |2=>[-3]
 |3=>[0,mkRat (-25) 2]
 |4=>[mkRat 35 3,0,mkRat (-1225) 24]
 |_=>[]
def bB:Nat→List Rat
 |1=>[1]
 |2=>[0,mkRat 3 2]
 |3=>[mkRat (-5) 3,0,mkRat 25 6]
 |4=>[0,mkRat (-805) 96,0,mkRat 1225 96]
 |_=>[]
def bX(k i:Nat):Rat:=
 if i=0 then -1 else if i=k then 1 else if k=2 then 0 else if i=1 then mkRat (-1) 2 else if k=4∧i=2 then 0 else mkRat 1 2
def m0K(k:Nat):List Rat:=sqL (moQ [1] (-1,1)) (2* k)
def baseC(k:Nat):Prop:=
 (∀j,j< k+1→(ldr (m0K k) j).1=bN j)∧(∀j,j< k→0< ldN (m0K k) (ldr (m0K k) j).1)∧(bN k).length=k+1∧coP (bN k) k=1∧addP (mulP (bA k) (bN k)) (mulP (bB k) (ax_ (bN k)))=[1]∧
 (divP (subP (mulP (bWt k) (ax_ (bN k))) (tpQ (bN k) (m0K k))) (bN k)).2=[]∧(bWt k).length≤k∧(∀i,i< k→bX k i< bX k (i+1))∧(∀i,i< k→evalP (bN k) (bX k i) * evalP (bN k) (bX k (i+1))< 0)∧
 (∀j,j< k+1→bdL (bN j) 8∧(bN j).length≤5)∧bdL (bWt k) 8
instance (k:Nat):Decidable (baseC k):=by unfold baseC;infer_instance
section
variable {a b:Rat}(h:a< b){k:Nat}(hk:1≤k∧k≤4)
include h hk
end

theorem bdL_mono'{l:List Rat}{a b:Nat}(h:bdL l a)(hab:a≤b):bdL l b:=fun q hq=>Nat.le_trans (h q hq) hab
theorem jN_{N:List Rat}(hN:nz N)(hm:leadP N=1)(ht:trimQ N=N):a6_ N=N:=by
 unfold a6_
 rw[if_neg hN,hm]
 have:trimQ (az_ N (1/ 1))=trimQ N:=eqv_trim.1 fun x=>by rw[aA_];grind
 rw[cb_,ht] at this
 exact this
section
variable {a b:Rat}(h:a< b){k:Nat}(hk:1≤k∧k≤4)(ha:qs a≤20)(hb:qs b≤20)
include ha hb
end
def suB(s:Nat):Nat→Nat
 |0=>13
 |k+1=>(k+1) * (s+suB s k+14)
theorem qs_k{k:Nat}(h:k≤1000):qs ((k:Int):Rat)≤13:=qs_nQ (n:=k) (k:=13) (bl_le (by omega)) (by decide)
theorem q9_{T out:List Rat}{s S n k:Nat}(hT:bdL T s)(hs:1≤s)(ho:bdL out S)(hS:1≤S)(hk:k≤1000):∀i,qs (nwA T n out k i)≤s+13+i* (s+S+1)
 |0=>by
  have h1:=b3_ (coP T (n- k)) ((k:Int):Rat)
  have h2:=bA_ hT hs (n- k)
  have h3:=qs_k hk
  rw[nwA];omega
 |i+1=>by
  have h1:=q9_ (n:=n) hT hs ho hS hk i
  have h2:=b3_ (coP T (n- (i+1))) (coP out (k- (i+1)))
  have h3:=bA_ hT hs (n- (i+1))
  have h4:=bA_ ho hS (k- (i+1))
  have h5:=f0_ (nwA T n out k i) (coP T (n- (i+1)) * coP out (k- (i+1)))
  rw[nwA,Nat.succ_mul];omega
theorem qy_{T:List Rat}{n s:Nat}(hT:bdL T s)(hs:1≤s)(hn:n≤1000):∀k,k≤999→bdL (suL T n k) (suB s k)∧13≤suB s k
 |0,_=>⟨fun q hq=>by
    rw[List.mem_singleton.1 hq]
    exact qs_k hn,Nat.le_refl _⟩
 |k+1,hk=>by
  obtain⟨h1,h2⟩:=qy_ hT hs hn k (by omega)
  have h3:s+suB s k+14≤suB s (k+1):=by
   rw[suB]
   exact Nat.le_mul_of_pos_left _ (Nat.succ_pos k)
  refine⟨fun q hq=>?_,by omega⟩
  rcases List.mem_append.1 hq with hq|hq
  have:=h1 q hq;omega
  rw[List.mem_singleton.1 hq,dK_]
  have h4:=q9_ (n:=n) (k:=k+1) hT hs h1 (by omega) (by omega) k
  have h5:k* (s+suB s k+1)≤k* (s+suB s k+14):=Nat.mul_le_mul_left _ (by omega)
  rw[suB,Nat.succ_mul];omega
theorem okSu_of{T:List Rat}{n s k:Nat}(hT:bdL T s)(hs:1≤s)(hn:n≤1000)(hk:k≤900)(hB:suB s (k+1)≤137438953472):okSu T n k:=by
 obtain⟨h1,h2⟩:=qy_ hT hs hn k (by omega)
 have h3:s+suB s k+14≤suB s (k+1):=by
  rw[suB]
  exact Nat.le_mul_of_pos_left _ (Nat.succ_pos k)
 have e1:=bA_ hT hs (n- (k+1))
 have e2:=qs_k (k:=k+1) (by omega)
 refine⟨by omega,fun i hi=>?_⟩
 have e3:=bA_ hT hs (n- (i+1))
 have e4:=bA_ h1 (by omega) (k+1- (i+1))
 have e5:=q9_ (n:=n) (k:=k+1) hT hs h1 (by omega) (by omega) i
 have e6:=b3_ (coP T (n- (i+1))) (coP (suL T n k) (k+1- (i+1)))
 have e7:i* (s+suB s k+1)≤k* (s+suB s k+14):=Nat.mul_le_mul (by omega) (by omega)
 have e8:suB s (k+1)=k* (s+suB s k+14)+(s+suB s k+14):=by rw[suB,Nat.succ_mul]
 omega
section
variable {a b:Rat}(h:a< b){k:Nat}(hk:1≤k∧k≤4)
include h hk
variable (ha:qs a≤20)(hb:qs b≤20)
include ha hb
end
section
variable {a b:Rat}(h:a< b){k:Nat}(hk:1≤k∧k≤4)(ha:qs a≤20)(hb:qs b≤20)
include h hk ha hb
end
section
variable {a b a' b':Rat}(h:a< b)(h':a'< b'){k:Nat}(hk:1≤k∧k≤4)
include h h'
end
section
variable {a b a' b':Rat}(ha:qs a≤20)(hb:qs b≤20)(ha':qs a'≤20)(hb':qs b'≤20)
include ha hb ha' hb'
end
def okReC(c:Cnt)(p:List Rat):Prop:=okBe c (-bc_ p)∧okUp c (bc_ p)∧smS (-bc_ p,bc_ p)∧ff_ p∧p.length≤1000∧1≤degP p∧degP p≤25
instance (c:Cnt) (p:List Rat):Decidable (okReC c p):=by unfold okReC;infer_instance
def realM(f:Nat)(p:List Rat):Option Bool:=(cR_ f p).bind fun c=>if okReC c p then some (decide (uptoV c (bc_ p)- e6_ c (-bc_ p)=degP p)) else none
def okOnC(p m G A:List Rat):Prop:=okBz (ax_ p) p G A∧okMul (tpQ p m) (bzA p G A)∧okDiv (mulP (tpQ p m) (bzA p G A)) p∧trimQ p=p∧2≤p.length∧p.length≤1000∧p.length≤m.length+1∧(p.length+1) * (mxL p+mxL m+1)≤137438953472∧smL p
instance (p m G A:List Rat):Decidable (okOnC p m G A):=by unfold okOnC;infer_instance
def onM(f:Nat)(p m:List Rat):Option (List Rat):=(bzL f (ax_ p) p (cU_ ((1:Int):Rat)) []).bind fun x=>if okOnC p m x.1 x.2 then some (divP (mulP (tpQ p m) (bzA p x.1 x.2)) p).2 else none
def suP(p:List Rat):List Rat:=suL (trimQ p) (dg p) (dg p- 1)
def apV(p w f:List Rat):Rat:=ofQ (apR p w f) (suP p) (apR p w f).length
instance (T:List Rat) (n k:Nat):Decidable (okSu T n k):=by unfold okSu;infer_instance
instance (f:List Rat) (s:Sp) (k:Nat):Decidable (okMo f s k):=by unfold okMo smL;infer_instance
def okAp(p w f:List Rat):Prop:=okDiv f p∧okMul w (divP f p).2∧okDiv (mulP w (divP f p).2) p∧1≤dg p∧dg p≤1000∧p.length≤1000∧(∀k,k< dg p- 1→okSu (trimQ p) (dg p) k)∧(apR p w f).length≤dg p∧((apR p w f).length+2) * (mxL (apR p w f)+mxL (suP p)+1)≤137438953472∧sm (apV p w f)
instance (p w f:List Rat):Decidable (okAp p w f):=by unfold okAp;infer_instance
def m6:List Rat:=sqL (moQ [1] (-1,1)) 6
def p13:List Rat:=[mkRat (-1) 3,0,1]
def p35:List Rat:=[0,mkRat (-3) 5,0,1]
def w35:List Rat:=[mkRat 8 9,0,mkRat (-5) 9]
def pRa:List Rat:=[mkRat (-1) 3,mkRat 2 3,1]
def wRa:List Rat:=[mkRat 5 4,mkRat 3 4]
def mRa:List Rat:=sqL (tmQ (enM (-1)) m6) (m6.length+1- (trimQ (enM (-1))).length)
def mKr:List Rat:=sqL (tmQ (ldr m6 1).1 m6) (m6.length+1- (trimQ (ldr m6 1).1).length)
theorem c_m6:m6=[2,0,mkRat 2 3,0,mkRat 2 5,0]:=by decide+kernel
theorem c_ok:(∀k,k< 2→okLd m6 k)∧(∀k,k< 6→okMo [1] (-1,1) k):=by decide+kernel
theorem c_g:(ldr m6 2).1=p13∧realM 9 p13=some true∧onM 9 p13 m6=some [1]∧a6_ p13=p13∧bdL p13 100∧trimQ p13≠[]:=by decide+kernel
theorem c_d:(∀k,k< 5→okAp p13 [1] (List.replicate k 0++[((1:Int):Rat)]))∧(∀k,k< 4→apV p13 [1] (List.replicate k 0++[((1:Int):Rat)])=coP m6 k)∧apV p13 [1] (List.replicate 4 0++[((1:Int):Rat)])≠coP m6 4:=by decide+kernel
theorem c_k:okMul (ldr m6 1).1 (ldr m6 1).1∧okOf m6 (mulP (ldr m6 1).1 (ldr m6 1).1)∧0< ldN m6 (ldr m6 1).1∧4≤mKr.length∧coP mKr 1≠0∧okMul (ldr m6 1).1 (krE mKr 1 2)∧mulP (ldr m6 1).1 (krE mKr 1 2)=p35∧bdL (ldr m6 1).1 100∧bdL m6 100∧(ldr m6 1).1.length≤1000:=by decide+kernel
instance (m:List Rat) (n k:Nat):Decidable (okKr m n k):=by unfold okKr;infer_instance
theorem c_kk:∀k,k< 2→okKr mKr 1 k:=by decide+kernel
theorem c_kp:realM 9 p35=some true∧onM 9 p35 m6=some w35∧a6_ p35=p35∧bdL p35 100∧trimQ p35≠[]:=by decide+kernel
theorem c_r:(∀k,k< 1→okLd mRa k)∧okMul (enM (-1)) (ldr mRa 1).1∧mulP (enM (-1)) (ldr mRa 1).1=pRa∧realM 9 pRa=some true∧onM 9 pRa m6=some wRa∧a6_ pRa=pRa∧bdL pRa 100∧trimQ pRa≠[]∧bdL (enM (-1)) 100:=by decide+kernel
def lB:Nat→Nat
 |0=>1
 |n+1=>2* lB n+600
theorem fk_:∀n,1≤lB n
 |0=>Nat.le_refl _
 |n+1=>by rw[lB];omega
theorem lB_ok:((List.range 9).all fun n=>decide (lB n≤160000))=true:=by decide+kernel
theorem lB_le{n:Nat}(h:n≤8):lB n≤160000:=of_decide_eq_true (List.all_eq_true.1 lB_ok n (List.mem_range.2 (by omega)))
theorem bd_uv{u v:Rat}{s:Nat}(hu:qs u≤s)(hv:qs v≤s):bdL [u,v] s:=fun q hq=>by
 rcases List.mem_cons.1 hq with rfl|hq
 exact hu
 rw[List.mem_singleton.1 hq];exact hv
theorem i9_{l:List Rat}{q:Rat}(h:q∈l):∃i,i< l.length∧coP l i=q:=by
 obtain⟨i,hi,e⟩:=List.getElem_of_mem h
 exact⟨i,hi,by rw[←e];unfold coP;rw[List.getD_eq_getElem?_getD,List.getElem?_eq_getElem hi];rfl⟩
theorem line_bd{p:List Rat}{u v:Rat}{s:Nat}(hp:bdL p s)(hs:1≤s)(hu:qs u≤256)(hv:qs v≤256):bdL (mulP p [u,v]) (2* s+600):=fun q hq=>by
 obtain⟨i,_,e⟩:=i9_ hq
 rw[←e,gY_]
 have h1:=f0_ (coP p i* u) (lag p i* v)
 have h2:=b3_ (coP p i) u
 have h3:=b3_ (lag p i) v
 have h4:=bA_ hp hs i
 have h5:qs (lag p i)≤s:=by
  cases i with
  |zero=>show qs 0≤s;exact Nat.le_trans (by decide) hs
  |succ i=>exact bA_ hp hs i
 omega
theorem gy_{u v:Rat}(hu:qs u≤256)(hv:qs v≤256):∀n,bdL (powP [u,v] n) (lB n)
 |0=>fun q hq=>by
  have:=bk_ (l:=[1]) hq
  rw[List.mem_singleton.1 this]
  show qs 1≤1
  decide
 |n+1=>line_bd (gy_ hu hv n) (fk_ n) hu hv
theorem qiN(n:Int):qs (n:Rat)≤max (bl n.natAbs) 1:=by
 have e1:(n:Rat).num=n:=rfl
 have e2:(n:Rat).den=1:=rfl
 unfold qs;rw[e1,e2,jh_];exact Nat.le_refl _
theorem qi21{n:Int}(h: -2000000≤n∧n≤2000000):qs (n:Rat)≤21:=by
 have h1:=qiN n
 have h2:bl n.natAbs≤21:=bl_le (by omega)
 omega
theorem iM_{p:List Rat}{s:Nat}(h:bdL p s)(hs:1≤s)(hl:p.length≤1000000):bdL (aL_ p) (s+21):=fun q hq=>by
 obtain⟨i,hi,e⟩:=i9_ hq
 have hil:=dO_ p
 rw[←e,bM_]
 split
 exact Nat.le_trans (by decide:qs 0≤1) (by omega)
 have h1:=c8_ (coP p (i- 1)) (((i:Nat):Int):Rat)
 have h2:=bA_ h hs (i- 1)
 have h3:=qi21 (n:=((i:Nat):Int)) (by omega)
 omega
theorem gK_bd{f:List Rat}{s:Nat}(h:bdL f s)(hs:1≤s):∀k,bdL (gK f k) s
 |0=>h
 |k+1=>fun q hq=>by
  obtain⟨i,hi,e⟩:=i9_ hq
  rw[←e,gK,gY_,Rat.mul_zero,Rat.zero_add,Rat.mul_one]
  cases i with
  |zero=>exact Nat.le_trans (by decide:qs 0≤1) hs
  |succ i=>exact bA_ (gK_bd h hs k) hs i
theorem o0_(f:List Rat):∀k,(gK f k).length≤f.length+k
 |0=>Nat.le_refl _
 |k+1=>by
  have h1:=o0_ f k
  have h2:=mulP_line_len' (gK f k) 0 1
  rw[gK];omega
def jcF(a b:Rat)(p q:Nat):List Rat:=mulP (powP [-a,1] p) (powP [b,-1] q)
section
variable {a b:Rat}{p q:Nat}(ha:qs a≤256)(hb:qs b≤256)(hp:p≤8)(hq:q≤8)
include ha in
theorem jc_p:bdL (powP [-a,1] p) (lB p):=gy_ (by rw[dK_];exact ha) (by decide) p
include hb in
theorem jc_q:bdL (powP [b,-1] q) (lB q):=gy_ hb (by decide) q
omit ha hb hp hq in
theorem dL_(u v:Rat){n:Nat}(h:n≤8):(powP [u,v] n).length≤17:=by
 have:=gx_ [u,v] n
 have e:[u,v].length=2:=rfl
 rw[e] at this;omega
include ha hb hp hq
theorem rq_:bdL (jcF a b p q) 5500000∧(jcF a b p q).length≤34:=by
 have l1:=dL_ (-a) 1 hp
 have l2:=dL_ b (-1) hq
 constructor
 intro x hx
 have h1:=fh_ (jc_p (p:=p) ha) (jc_q (q:=q) hb) (fk_ p) (fk_ q) x hx
 have h2:=lB_le hp
 have h3:=lB_le hq
 have h4:=Nat.mul_le_mul l1 (show lB p+lB q+1≤320001 by omega)
 omega
 have:=nD_ (powP [-a,1] p) (powP [b,-1] q)
 show(mulP _ _).length≤_
 omega
theorem jc_mom(k:Nat)(hk:k≤64):okMo (jcF a b p q) (a,b) k∧qs (moQ (jcF a b p q) (a,b) k)≤2000000000:=by
 obtain⟨f1,f2⟩:=rq_ ha hb hp hq
 have g1:=gK_bd f1 (by decide) k
 have g2:=o0_ (jcF a b p q) k
 have i1:=iM_ g1 (by decide) (by omega)
 have i2:=dO_ (gK (jcF a b p q) k)
 have m1:=bP_ g1 (by decide)
 have m2:=bP_ i1 (by decide)
 have e1:=es_ (x:=a) ha i1
 have e2:=es_ (x:=b) hb i1
 have e3:=Nat.mul_le_mul_right (5500000+21+256+1) (show(aL_ (gK (jcF a b p q) k)).length≤99 by omega)
 have e4:=Nat.mul_le_mul (show(aL_ (gK (jcF a b p q) k)).length≤99 by omega) (show mxL (aL_ (gK (jcF a b p q) k))+qs a+1≤5600000 by omega)
 have e5:=Nat.mul_le_mul (show(aL_ (gK (jcF a b p q) k)).length≤99 by omega) (show mxL (aL_ (gK (jcF a b p q) k))+qs b+1≤5600000 by omega)
 have e7:mxL [0,1]=1:=by decide+kernel
 have e6:=Nat.mul_le_mul (show(gK (jcF a b p q) k).length≤98 by omega) (show mxL (gK (jcF a b p q) k)+mxL [0,1]+1≤5600000 by omega)
 refine⟨⟨fun q hq=>Nat.le_trans (g1 q hq) (by decide),by omega,⟨by show _* (_+qs a+1)+_+qs a+2≤_;omega,by omega⟩,⟨by show _* (_+qs b+1)+_+qs b+2≤_;omega,by omega⟩,⟨by omega,by omega,by omega,by simp⟩⟩,?_⟩
 have:=qs_sub (evalP (aL_ (gK (jcF a b p q) k)) b) (evalP (aL_ (gK (jcF a b p q) k)) a)
 show qs (evalP (aL_ (gK (jcF a b p q) k)) b- evalP (aL_ (gK (jcF a b p q) k)) a)≤_
 omega
end
def fcN:Nat→Nat
 |0=>1
 |n+1=>fcN n* (n+1)
def lgQ(p k:Nat):Rat:=((fcN (p+k):Nat):Int)
theorem fcN_ok:((List.range 74).all fun n=>decide (bl (fcN n)≤512))=true:=by decide+kernel
theorem gS_{n:Nat}(h:n≤73):qs (((fcN n:Nat):Int):Rat)≤512:=by
 have h1:=of_decide_eq_true (List.all_eq_true.1 fcN_ok n (List.mem_range.2 (by omega)))
 have h2:=qiN ((fcN n:Nat):Int)
 simp only[Int.natAbs_natCast] at h2
 omega
def evM(f:Nat→Rat):Nat→Rat
 |0=>1
 |j+1=>evM f j* f (2* (j+1))
def evW(f:Nat→Rat)(i:Nat):Rat:=if i % 2=0 then evM f (i/ 2) else 0
theorem pk_{f:Nat→Rat}{s:Nat}:∀n,(∀j,j< n→qs (f (2* (j+1)))≤s)→qs (evM f n)≤n* s+1
 |0,_=>by show qs 1≤0* s+1;rw[Nat.zero_mul];decide
 |n+1,h=>by
  have h1:=pk_ n fun j hj=>h j (by omega)
  have h2:=b3_ (evM f n) (f (2* (n+1)))
  have h3:=h n (by omega)
  have h4:(n+1) * s=n* s+s:=Nat.succ_mul n s
  rw[evM];omega
def evK:Nat→Nat→Rat
 |1,k=>(((k:Int)- 1:Int):Rat) / ((2:Int):Rat)
 |2,k=>(((k:Int)- 1:Int):Rat) / (((k:Nat):Int):Rat)
 |_,k=>(((k:Int)- 1:Int):Rat) / (((k:Int)+2:Int):Rat)
theorem mV_(c k:Nat)(h:k≤200):qs (evK c k)≤42:=by
 have h1:=qi21 (n:=(k:Int)- 1) (by omega)
 unfold evK
 split
 have:=c8_ (((k:Int)- 1:Int):Rat) ((2:Int):Rat)
 have h2:=qi21 (n:=2) (by omega)
 omega
 have:=c8_ (((k:Int)- 1:Int):Rat) (((k:Nat):Int):Rat)
 have h2:=qi21 (n:=((k:Nat):Int)) (by omega)
 omega
 have:=c8_ (((k:Int)- 1:Int):Rat) (((k:Int)+2:Int):Rat)
 have h2:=qi21 (n:=(k:Int)+2) (by omega)
 omega
def oddM(k:Nat):Nat→Rat
 |0=>1
 |j+1=>oddM k j* (((2* j+1:Nat):Int):Rat)
def halfM(m:Rat):Nat→Rat
 |0=>m
 |j+1=>halfM m j* (1/ 2)
def evD(c k:Nat):Rat:=
 if k % 2=0 then
  if c=1 then halfM (oddM k (k/ 2)) (k/ 2)
  else
   let m:=halfM (halfM ((((fcN k:Nat):Int):Rat) / (((fcN (k/ 2):Nat):Int) * ((fcN (k/ 2):Nat):Int):Rat)) (k/ 2)) (k/ 2)
   if c=3 then m/ (((k/ 2+1:Nat):Int):Rat) else m
 else 0
theorem evD_evS:((List.range 3).all fun c=>(List.range 21).all fun k=>decide (evD (c+1) k=evW (evK (c+1)) k))=true:=by decide+kernel
theorem evD_eq{c k:Nat}(hc:1≤c∧c≤3)(hk:k≤20):evD c k=evW (evK c) k:=by
 have h1:=List.all_eq_true.1 evD_evS (c- 1) (List.mem_range.2 (by omega))
 have h2:=of_decide_eq_true (List.all_eq_true.1 h1 k (List.mem_range.2 (by omega)))
 rw[show c- 1+1=c by omega] at h2
 exact h2

theorem o1_(f:List Rat)(x:Rat):∀n,evalP (gK f n) x=evalP f x* x^ n
 |0=>by rw[gK,Rat.pow_zero,Rat.mul_one]
 |n+1=>by
  rw[gK,ar_,o1_ f x n,Rat.pow_succ,cm_];grind
theorem mo_mono(f:List Rat)(a b:Rat)(k:Nat):evalP (aL_ (mulP f (shP k [1]))) b- evalP (aL_ (mulP f (shP k [1]))) a=moQ f (a,b) k:=by
 have h:Eqv (mulP f (shP k [1])) (gK f k):=fun x=>by
  rw[ar_,h4_,o1_,aB_,aG_];grind
 exact iL_ h a b
theorem oJ_(p m:List Rat):∀n,ofQ (trimQ p) m n=ofQ p m n
 |0=>rfl
 |n+1=>by rw[ofQ,ofQ,oJ_ p m n,bf_]
theorem oK_{p m:List Rat}{k:Nat}(h:∀i,k≤i→coP p i=0):∀n,k≤n→ofQ p m n=ofQ p m k
 |0,hn=>by rw[show k=0 by omega]
 |n+1,hn=>by
  by_cases e:k=n+1
  rw[e]
  rw[ofQ,oK_ h n (by omega),h n (by omega)];grind
theorem coP_past(p:List Rat):∀i,(trimQ p).length≤i→coP p i=0:=fun i hi=>by
 rw[←bf_];unfold coP
 rw[List.getD_eq_getElem?_getD,List.getElem?_eq_none (by omega)];rfl
theorem ofP_n{p m:List Rat}{n:Nat}(h:(trimQ p).length≤n):ofP m p=ofQ p m n:=by
 unfold ofP
 rw[oJ_];exact(oK_ (coP_past p) n h).symm
theorem q6_(p q m:List Rat):∀n,ofQ (addP p q) m n=ofQ p m n+ofQ q m n
 |0=>by show(0:Rat)=0+0;grind
 |n+1=>by rw[ofQ,ofQ,ofQ,q6_ p q m n,dc_];grind
theorem md_(p m:List Rat)(k:Rat):∀n,ofQ (az_ p k) m n=ofQ p m n* k
 |0=>by show(0:Rat)=0* k;grind
 |n+1=>by rw[ofQ,ofQ,md_ p m k n,a5_];grind
theorem iG_(m:List Rat):Lin (ofP m) where
 eqv h:=by unfold ofP;rw[eqv_trim.1 h]
 add p q:=by
  obtain⟨n,h1,h2,h3⟩:∃n,(trimQ p).length≤n∧(trimQ q).length≤n∧(trimQ (addP p q)).length≤n:=⟨(trimQ p).length+(trimQ q).length+(trimQ (addP p q)).length,by omega,by omega,by omega⟩
  rw[ofP_n h1,ofP_n h2,ofP_n h3,q6_]
 scale p k:=by
  obtain⟨n,h1,h3⟩:∃n,(trimQ p).length≤n∧(trimQ (az_ p k)).length≤n:=⟨(trimQ p).length+(trimQ (az_ p k)).length,by omega,by omega⟩
  rw[ofP_n h1,ofP_n h3,md_]
theorem Lin.comb{φ:List Rat→Rat}(H:Lin φ){r p q:List Rat}{u v:Rat}(h:∀x,evalP r x=evalP p x* u+evalP q x* v):φ r=φ p* u+φ q* v:=by
 rw[H.eqv (p:=r) (q:=addP (az_ p u) (az_ q v)) fun x=>by rw[h,bi_,aA_,aA_],H.add,H.scale,H.scale]
theorem Lin.comb3{φ:List Rat→Rat}(H:Lin φ){r p q s:List Rat}{u v w:Rat}(h:∀x,evalP r x=evalP p x* u+evalP q x* v+evalP s x* w):φ r=φ p* u+φ q* v+φ s* w:=by
 rw[H.comb (p:=addP (az_ p u) (az_ q v)) (q:=s) (u:=1) (v:=w) fun x=>by rw[h,bi_,aA_,aA_];grind,H.add,H.scale,H.scale];grind
theorem Lin.nil{φ:List Rat→Rat}(H:Lin φ){p:List Rat}(h:∀x,evalP p x=0):φ p=0:=by
 rw[H.eqv (p:=p) (q:=[]) fun x=>by rw[h,aG_],H.zero]
def bl2(m p q:List Rat):Rat:=ofP m (mulP p q)
theorem e1_(m p q:List Rat):bl2 m p q=bl2 m q p:=(iG_ m).eqv fun x=>by rw[ar_,ar_];grind
theorem g1_(m:List Rat){p q r:List Rat}{u v:Rat}(s:List Rat)(h:∀x,evalP r x=evalP p x* u+evalP q x* v):bl2 m r s=bl2 m p s* u+bl2 m q s* v:=
 (iG_ m).comb fun x=>by rw[ar_,ar_,ar_,h];grind
theorem of_(m:List Rat){p:List Rat}(s:List Rat)(h:∀x,evalP p x=0):bl2 m p s=0:=(iG_ m).nil fun x=>by rw[ar_,h];grind
abbrev oP(m:List Rat)(k:Nat):List Rat:=(ldr m k).1
abbrev oL(m:List Rat)(k:Nat):List Rat:=(ldr m k).2.1
abbrev oN(m:List Rat)(k:Nat):Rat:=ldN m (oP m k)
theorem oN_bl(m:List Rat)(k:Nat):oN m k=bl2 m (oP m k) (oP m k):=rfl
theorem oP_rec(m:List Rat)(k:Nat)(x:Rat):evalP (oP m (k+1)) x=evalP (oP m k) x* (x- ldAk m k)- evalP (oL m k) x* ldB m k:=by
 show evalP (subP (mulP (ldr m k).1 [-ldA m (ldr m k).1,1]) (az_ (ldr m k).2.1 (if k=0 then 0 else ldN m (ldr m k).1/ (ldr m k).2.2))) x=_
 rw[bm_,ar_,aA_,cm_]
 show _* (-ldAk m k+1* x)- _* ldB m k=_
 grind
theorem oL_0(m:List Rat):oL m 0=[]:=rfl
theorem oL_s(m:List Rat)(k:Nat):oL m (k+1)=oP m k:=rfl
theorem ldB_s(m:List Rat)(k:Nat):ldB m (k+1)=oN m (k+1) / oN m k:=if_neg (Nat.succ_ne_zero k)
theorem bl2_x(m:List Rat)(k:Nat)(h:oN m k≠0):bl2 m (mulP (oP m k) (oP m k)) [0,1]=ldAk m k* oN m k:=by
 show ofP m (mulP (mulP (oP m k) (oP m k)) [0,1])=ofP m (mulP (mulP (oP m k) (oP m k)) [0,1]) / oN m k* oN m k
 generalize ofP m (mulP (mulP (oP m k) (oP m k)) [0,1])=A at *
 generalize oN m k=B at *
 grind
theorem o_orth(m:List Rat)(n:Nat)(hn:∀j,j< n→oN m j≠0):∀k,k≤n→∀i j,i< j→j≤k→bl2 m (oP m i) (oP m j)=0
 |0,_,i,j,h1,h2=>by omega
 |k+1,hk,i,j,h1,h2=>by
  have ih:=o_orth m n hn k (by omega)
  by_cases hj:j≤k
  exact ih i j h1 hj
  obtain rfl:j=k+1:=by omega
  have hi:i≤k:=by omega
  have hNk:=hn k (by omega)
  -- P (k+1) in terms of the ones before
  have e1:bl2 m (oP m i) (oP m (k+1))=bl2 m (mulP (oP m k) (oP m i)) [0,1]+bl2 m (oP m k) (oP m i) * (-ldAk m k)+bl2 m (oL m k) (oP m i) * (-ldB m k):=by
   rw[e1_]
   have:=(iG_ m).comb3 (r:=mulP (oP m (k+1)) (oP m i)) (p:=mulP (mulP (oP m k) (oP m i)) [0,1]) (q:=mulP (oP m k) (oP m i)) (s:=mulP (oL m k) (oP m i)) (u:=1) (v:= -ldAk m k) (w:= -ldB m k) fun x=>by
    rw[ar_,oP_rec,ar_,ar_,ar_,cm_];grind
   rw[Rat.mul_one] at this
   exact this
  have hL:∀a b,a≤b→b≤k→bl2 m (oL m a) (oP m b)=0:=fun a b hab hb=>by
   cases a with
   |zero=>exact of_ m _ fun x=>by rw[oL_0,aG_]
   |succ a=>rw[oL_s];exact ih a b (by omega) hb
  by_cases hik:i=k
  subst hik
  rw[e1,bl2_x m i hNk,hL i i (Nat.le_refl _) (Nat.le_refl _),←oN_bl]
  generalize oN m i=B at *
  generalize ldAk m i=A at *
  grind
  have hlt:i< k:=by omega
  -- x P i in terms of its neighbours
  have e2:bl2 m (mulP (oP m k) (oP m i)) [0,1]=bl2 m (oP m (i+1)) (oP m k)+bl2 m (oP m i) (oP m k) * ldAk m i+bl2 m (oL m i) (oP m k) * ldB m i:=by
   have:=(iG_ m).comb3 (r:=mulP (mulP (oP m k) (oP m i)) [0,1]) (p:=mulP (oP m (i+1)) (oP m k)) (q:=mulP (oP m i) (oP m k)) (s:=mulP (oL m i) (oP m k)) (u:=1) (v:=ldAk m i) (w:=ldB m i) fun x=>by
    rw[ar_,ar_,ar_,ar_,ar_,oP_rec,cm_];grind
   rw[Rat.mul_one] at this
   exact this
  rw[e1,e2,hL i k (by omega) (Nat.le_refl _),ih i k hlt (Nat.le_refl _),e1_ m (oP m k) (oP m i),ih i k hlt (Nat.le_refl _)]
  by_cases hn1:i+1=k
  subst hn1
  have hNi:=hn i (by omega)
  rw[oL_s,ldB_s,←oN_bl,←oN_bl]
  generalize oN m i=B at *
  generalize oN m (i+1)=C at *
  grind
  rw[ih (i+1) k (by omega) (Nat.le_refl _)]
  obtain⟨k',rfl⟩:∃k',k=k'+1:=⟨k- 1,by omega⟩
  rw[oL_s,e1_,ih i k' (by omega) (by omega)]
  grind
def Mon(p:List Rat)(n:Nat):Prop:=coP p n=1∧∀i,n< i→coP p i=0
theorem jK_(m:List Rat):∀k,Mon (oP m k) k∧∀i,k≤i→coP (oL m k) i=0
 |0=>⟨⟨by show coP [1] 0=1;rfl,fun i hi=>by
   show coP [1] i=0
   cases i with
   |zero=>omega
   |succ i=>rfl⟩,fun i _=>rfl⟩
 |k+1=>by
  obtain⟨⟨h1,h2⟩,h3⟩:=jK_ m k
  have hc:∀i,coP (oP m (k+1)) i=coP (oP m k) i* (-ldAk m k)+lag (oP m k) i* 1- coP (oL m k) i* ldB m k:=fun i=>by
   show coP (subP (mulP (ldr m k).1 [-ldA m (ldr m k).1,1]) (az_ (ldr m k).2.1 (if k=0 then 0 else ldN m (ldr m k).1/ (ldr m k).2.2))) i=_
   rw[ed_,gY_,a5_]
   rfl
  refine⟨⟨?_,fun i hi=>?_⟩,fun i hi=>h2 i (by omega)⟩
  rw[hc,h2 (k+1) (by omega),h3 (k+1) (by omega)]
  show 0* _+coP (oP m k) k* 1- 0* _=1
  rw[h1];grind
  rw[hc,h2 i (by omega),h3 i (by omega)]
  obtain⟨j,rfl⟩:∃j,i=j+1:=⟨i- 1,by omega⟩
  show 0* _+coP (oP m k) j* 1- 0* _=0
  rw[h2 j (by omega)];grind
theorem lU_{p q:List Rat}{d:Nat}(hp:Mon p d)(hq:∀i,d+1≤i→coP q i=0):∃r:List Rat,(∀i,d≤i→coP r i=0)∧∀x,evalP q x=evalP p x* coP q d+evalP r x:=by
 refine⟨subP q (az_ p (coP q d)),fun i hi=>?_,fun x=>by rw[bm_,aA_];grind⟩
 rw[ed_,a5_]
 by_cases h:i=d
 subst h;rw[hp.1];grind
 rw[hq i (by omega),hp.2 i (by omega)];grind
theorem q7_(m:List Rat)(n:Nat)(hn:∀j,j< n→oN m j≠0)(k:Nat)(hk:k≤n):∀d q,d≤k→(∀i,d≤i→coP q i=0)→bl2 m q (oP m k)=0
 |0,q,_,hq=>of_ m _ fun x=>by rw[b4_ (q:=[]) fun i=>by rw[hq i (Nat.zero_le _)];rfl];rfl
 |d+1,q,hd,hq=>by
  obtain⟨r,h1,h2⟩:=lU_ (jK_ m d).1 hq
  rw[g1_ m (p:=oP m d) (q:=r) (u:=coP q d) (v:=1) _ fun x=>by rw[h2];grind,o_orth m n hn k hk d k (by omega) (Nat.le_refl _),q7_ m n hn k hk d r (by omega) h1]
  grind
theorem o_pos(m:List Rat)(n:Nat)(hn:∀j,j< n→0< oN m j):∀d q,d≤n→(∀i,d≤i→coP q i=0)→0≤bl2 m q q∧(bl2 m q q=0→∀x,evalP q x=0)
 |0,q,_,hq=>by
  have hz:∀x,evalP q x=0:=fun x=>by rw[b4_ (q:=[]) fun i=>by rw[hq i (Nat.zero_le _)];rfl];rfl
  rw[of_ m _ hz]
  exact⟨Rat.le_refl,fun _=>hz⟩
 |d+1,q,hd,hq=>by
  have hn0:∀j,j< n→oN m j≠0:=fun j hj=>by have:=hn j hj;grind
  obtain⟨r,h1,h2⟩:=lU_ (jK_ m d).1 hq
  obtain⟨i1,i2⟩:=o_pos m n hn d r (by omega) h1
  have hp:=q7_ m n hn0 d (by omega) d r (Nat.le_refl _) h1
  have hN:=hn d (by omega)
  have e:bl2 m q q=coP q d* coP q d* oN m d+bl2 m r r:=by
   have a1:=g1_ m (p:=oP m d) (q:=r) (r:=q) (u:=coP q d) (v:=1) q fun x=>by rw[h2];grind
   have a2:=g1_ m (p:=oP m d) (q:=r) (r:=q) (u:=coP q d) (v:=1) (oP m d) fun x=>by rw[h2];grind
   have a3:=g1_ m (p:=oP m d) (q:=r) (r:=q) (u:=coP q d) (v:=1) r fun x=>by rw[h2];grind
   rw[e1_ m (oP m d) q,e1_ m r q] at a1
   rw[e1_ m (oP m d) r] at a3
   rw[←oN_bl] at a2
   rw[a1,a2,a3,hp];grind
  have hsq:0≤coP q d* coP q d:=by
   rcases Rat.le_total (a:=0) (b:=coP q d) with h|h
   exact Rat.mul_nonneg h h
   have:0≤ -coP q d:=by grind
   have:=Rat.mul_nonneg this this
   grind
  have hm:=Rat.mul_nonneg hsq (Rat.le_of_lt hN)
  refine⟨by rw[e];grind,fun h0=>?_⟩
  rw[e] at h0
  have hc0:coP q d* coP q d* oN m d=0:=by grind
  have hr0:bl2 m r r=0:=by grind
  have hcd:coP q d=0:=by
   rcases Rat.mul_eq_zero.1 hc0 with h|h
   rcases Rat.mul_eq_zero.1 h with h|h <;> exact h
   grind
  intro x
  rw[h2,hcd,i2 hr0 x];grind
theorem o_few1{m N:List Rat}{n:Nat}(hn:∀j,j< n+1→0< oN m j)(hN:Mon N n):0< bl2 m N N:=by
 have h:=o_pos m (n+1) hn (n+1) N (Nat.le_refl _) fun i hi=>hN.2 i (by omega)
 have hne:bl2 m N N≠0:=fun e=>by
  have h2:=h.2 e
  have h3:coP N n=coP [] n:=trim_iff.1 (cL_ fun x=>by rw[h2 x,aG_]) n
  rw[hN.1] at h3
  exact absurd (show(1:Rat)=0 from h3) (by decide)
 have h1:=h.1
 grind
theorem o_few2{m N:List Rat}{n:Nat}(hn:∀j,j< n→0< oN m j)(hN:Mon N n)(h:∀q:List Rat,(∀i,n≤i→coP q i=0)→bl2 m N q=0):Eqv N (oP m n):=by
 have hn0:∀j,j< n→oN m j≠0:=fun j hj=>by have:=hn j hj;grind
 obtain⟨p1,p2⟩:=(jK_ m n).1
 have hr:∀i,n≤i→coP (subP N (oP m n)) i=0:=fun i hi=>by
  rw[ed_]
  by_cases e:i=n
  subst e;rw[hN.1,p1];grind
  rw[hN.2 i (by omega),p2 i (by omega)];grind
 have h1:=h _ hr
 have h2:=q7_ m n hn0 n (Nat.le_refl _) n _ (Nat.le_refl _) hr
 have h3:=g1_ m (p:=N) (q:=oP m n) (r:=subP N (oP m n)) (u:=1) (v:= -1) (subP N (oP m n)) fun x=>by rw[bm_];grind
 rw[h1,e1_ m (oP m n),h2] at h3
 have h4:=(o_pos m n hn n _ (Nat.le_refl _) hr).2 (by rw[h3];grind)
 intro x
 have:=h4 x
 rw[bm_] at this
 grind
def rhoP(N g:List Rat):Rat:=coP (md g N) (dg N- 1)
theorem kK_{N p q r:List Rat}{u v:Rat}(hN:nz N)(h:∀x,evalP r x=evalP p x* u+evalP q x* v):rhoP N r=rhoP N p* u+rhoP N q* v:=by
 have h1:=re_ hN h
 have h2:=trim_iff.1 (cL_ (p:=md r N) (q:=addP (az_ (md p N) u) (az_ (md q N) v)) fun x=>by rw[h1,bi_,aA_,aA_]) (dg N- 1)
 rw[dc_,a5_,a5_] at h2
 exact h2
theorem qT_{N p q:List Rat}(h:Eqv p q):rhoP N p=rhoP N q:=by unfold rhoP;rw[rg_ h (fun _=>rfl)]
theorem rho_md{N p q z:List Rat}(hN:nz N)(h:∀x,evalP p x=evalP z x* evalP N x+evalP q x):rhoP N p=rhoP N q:=by
 have h1:=md_add hN h
 unfold rhoP
 exact trim_iff.1 (cL_ h1) _
theorem hT_{N p:List Rat}(hN:nz N)(h:nz p→dg p< dg N):rhoP N p=coP p (dg N- 1):=trim_iff.1 (cL_ (rf_ hN h)) _
theorem ps_{p:List Rat}{n:Nat}(h:∀i,n≤i→coP p i=0):nz p→dg p< n:=fun hz=>Nat.lt_of_not_le fun hle=>(bN_ hz).1.1 (h _ hle)
theorem lt_dg_of{p N:List Rat}(h:nz p→dg p< dg N):∀i,dg N≤i→coP p i=0:=fun i hi=>by
 by_cases hz:nz p
 exact(bN_ hz).1.2 i (by have:=h hz;omega)
 exact trim_nil_iff.1 (Classical.not_not.1 hz) i
theorem lr_:∀(p:List Rat) (r:Rat) (i:Nat),coP (synD p r) i=evalP (p.drop (i+1)) r
 |[],_,i=>by show(0:Rat)=_;rw[List.drop_nil];rfl
 |[a],_,i=>by show(0:Rat)=_;rw[List.drop_succ_cons,List.drop_nil];rfl
 |a::b::l,r,0=>rfl
 |a::b::l,r,i+1=>by
  show coP (synD (b::l) r) i=_
  rw[lr_ (b::l) r i];rfl
theorem j6_{l:List Rat}(h:∀i,1≤i→coP l i=0)(x:Rat):evalP l x=coP l 0:=by
 rw[b4_ (q:=[coP l 0]) fun i=>by
  cases i with
  |zero=>rfl
  |succ i=>rw[h (i+1) (by omega)];rfl]
 rw[aB_,aG_];grind
theorem h5_(l:List Rat)(k i:Nat):coP (l.drop k) i=coP l (k+i):=by
 unfold coP
 rw[List.getD_eq_getElem?_getD,List.getD_eq_getElem?_getD,List.getElem?_drop]
section
variable {N:List Rat}(hN:nz N)(hm:leadP N=1)(h1:1≤dg N)
include hN hm h1
theorem syn_top(x:Rat):coP (synD N x) (dg N- 1)=1∧∀i,dg N≤i→coP (synD N x) i=0:=by
 obtain⟨⟨d1,d2⟩,d3⟩:=bN_ hN
 constructor
 rw[lr_,show dg N- 1+1=dg N by omega,j6_ (fun i hi=>by rw[h5_];exact d2 _ (by omega)),h5_,Nat.add_zero,d3,hm]
 intro i hi
 rw[lr_,j6_ (fun j hj=>by rw[h5_];exact d2 _ (by omega)),h5_]
 exact d2 _ (by omega)
theorem qS_(x:Rat):∀k,k< dg N→rhoP N (mulP (gK [1] k) (synD N x))=x^ k
 |0,_=>by
  obtain⟨s1,s2⟩:=syn_top hN hm h1 x
  rw[qT_ (q:=synD N x) fun t=>by rw[ar_,dH_];grind,hT_ hN (ps_ s2),s1,Rat.pow_zero]
 |k+1,hk=>by
  have ih:=qS_ x k (by omega)
  have hg:∀i,dg N≤i+1→coP (gK [1] k) i=0:=fun i hi=>by
   have h2:=o0_ [1] k
   have e1:([1]:List Rat).length=1:=rfl
   unfold coP
   rw[List.getD_eq_getElem?_getD,List.getElem?_eq_none (by omega)];rfl
  have r1:rhoP N (gK [1] k)=0:=by
   rw[hT_ hN (ps_ fun i hi=>hg i (by omega))]
   exact hg _ (by omega)
  have r2:rhoP N (mulP (gK [1] k) N)=0:=by
   rw[rho_md (q:=[]) (z:=gK [1] k) hN fun t=>by rw[ar_,aG_];grind,hT_ hN fun h=>(h (show trimQ []=[] from rfl)).elim]
   rfl
  have e:=kK_ (N:=N) (r:=mulP (gK [1] (k+1)) (synD N x)) (p:=mulP (gK [1] k) (synD N x)) (q:=subP (mulP (gK [1] k) N) (az_ (gK [1] k) (evalP N x))) (u:=x) (v:=1) hN fun t=>by
   have:=dX_ N x t
   rw[ar_,ar_,bm_,ar_,aA_,dH_,dH_,Rat.pow_succ,this];grind
  have e2:=kK_ (N:=N) (r:=subP (mulP (gK [1] k) N) (az_ (gK [1] k) (evalP N x))) (p:=mulP (gK [1] k) N) (q:=gK [1] k) (u:=1) (v:= -evalP N x) hN fun t=>by
   rw[bm_,aA_];grind
  rw[e,e2,ih,r1,r2,Rat.pow_succ];grind
theorem kJ_(x:Rat)(h:List Rat):∀n,n≤dg N→rhoP N (mulP (h.take n) (synD N x))=evalP (h.take n) x
 |0,_=>by
  rw[List.take_zero,qT_ (q:=[]) fun t=>by rw[ar_,aG_];grind,hT_ hN fun h=>(h (show trimQ []=[] from rfl)).elim]
  rfl
 |n+1,hn=>by
  by_cases hl:n< h.length
  have ih:=kJ_ x h n (by omega)
  rw[kK_ (p:=mulP (h.take n) (synD N x)) (q:=mulP (gK [1] n) (synD N x)) (u:=1) (v:=coP h n) hN fun t=>by
   rw[ar_,ar_,ar_,cM_ _ _ _ hl,dH_];grind,ih,qS_ hN hm h1 x n (by omega),cM_ _ _ _ hl]
  grind
  rw[List.take_of_length_le (by omega)]
  have ih:=kJ_ x h n (by omega)
  rw[List.take_of_length_le (by omega)] at ih
  exact ih
theorem tr_syn(W:List Rat)(x:Rat):trP N (mulP W (synD N x))=evalP (md (mulP W (ax_ N)) N) x:=by
 obtain⟨a1,a2⟩:=cE_ (mulP W (ax_ N)) hN
 have hh:=lt_dg_of a2
 generalize md (mulP W (ax_ N)) N=h at *
 have hl:evalP h x=evalP (h.take (dg N)) x∧∀t,evalP h t=evalP (h.take (dg N)) t:=by
  have:∀t,evalP h t=evalP (h.take (dg N)) t:=fun t=>b4_ (fun i=>by
   unfold coP
   rw[List.getD_eq_getElem?_getD,List.getD_eq_getElem?_getD,List.getElem?_take]
   by_cases hi:i< dg N
   rw[if_pos hi]
   rw[if_neg hi]
   have:=hh i (by omega)
   unfold coP at this
   rw[List.getD_eq_getElem?_getD] at this
   rw[this];rfl) t
  exact⟨this x,this⟩
 rw[hl.1,←kJ_ hN hm h1 x h (dg N) (Nat.le_refl _)]
 show rhoP N (mulP (mulP W (synD N x)) (ax_ N))=_
 exact rho_md (z:=mulP (divP (mulP W (ax_ N)) N).1 (synD N x)) hN fun t=>by
  have:=a1 t
  rw[ar_] at this
  rw[ar_,ar_,ar_,ar_,←hl.2]
  have e:evalP W t* evalP (synD N x) t* evalP (ax_ N) t=evalP W t* evalP (ax_ N) t* evalP (synD N x) t:=by grind
  rw[e,this];grind
end
theorem kU_{N:List Rat}(hN:nz N)(W:List Rat):Lin (fun g=>trP N (mulP W g)) where
 eqv {p q} h:=(iF_ hN).eqv fun x=>by rw[ar_,ar_,h]
 add p q:=by
  rw[←(iF_ hN).add]
  exact(iF_ hN).eqv fun x=>by rw[bi_,ar_,ar_,ar_,bi_];grind
 scale p k:=by
  rw[←(iF_ hN).scale]
  exact(iF_ hN).eqv fun x=>by rw[aA_,ar_,ar_,aA_];grind
theorem oL_{N W m:List Rat}{D:Nat}(hN:nz N)(hr:∀i,i< D→coP m i=trP N (mulP W (gK [1] i))){p:List Rat}(h:(trimQ p).length≤D):ofP m p=trP N (mulP W p):=by
 have H:=kU_ hN W
 unfold ofP
 rw[H.ofQ hr _ _ h (Nat.le_refl _),List.take_length]
 exact H.eqv fun x=>bh_ p x
theorem l5_{N W q:List Rat}(hN:nz N):trP N (mulP W (mulP N q))=0:=by
 rw[trP_md (u:=mulP W q) (h:=[]) hN fun x=>by rw[ar_,ar_,ar_,aG_];grind,(iF_ hN).zero]
theorem wt_rule{N W m:List Rat}(hN:nz N)(hm:leadP N=1)(h1:1≤dg N)(ht:trimQ N=N)(hr:∀i,i< dg N→coP m i=trP N (mulP W (gK [1] i))):∃z,∀x,evalP W x* dvE N x=evalP (tpQ N m) x+evalP z x* evalP N x:=by
 have hl:N.length≤dg N+1:=by unfold dg;rw[ht];omega
 obtain⟨a1,_⟩:=cE_ (mulP W (ax_ N)) hN
 refine⟨(divP (mulP W (ax_ N)) N).1,fun x=>?_⟩
 have h2:=nq_ (kU_ hN W) hr N hl x
 have h3:=tr_syn hN hm h1 W x
 have h4:=a1 x
 rw[ar_,br_] at h4
 rw[h2,h3,h4];grind
theorem mon_dg{N:List Rat}(hN:nz N)(hm:leadP N=1):Mon N (dg N):=by
 obtain⟨⟨d1,d2⟩,d3⟩:=bN_ hN
 exact⟨by rw[d3,hm],d2⟩
theorem nG_{p q:List Rat}{a b:Nat}(hp:(trimQ p).length≤a+1)(hq:(trimQ q).length≤b):(trimQ (mulP p q)).length≤a+b:=by
 rw[show trimQ (mulP p q)=trimQ (mulP (trimQ p) (trimQ q)) from cL_ fun x=>by rw[ar_,ar_,bh_,bh_],lN_]
 have:=d4_ (trimQ p) (trimQ q)
 omega
theorem few_deg{N W m:List Rat}{n:Nat}(hN:nz N)(hm:leadP N=1)(hd:dg N=n)(hn:∀j,j< n+1→0< oN m j):∃i,i≤2* n∧coP m i≠trP N (mulP W (gK [1] i)):=by
 refine Classical.byContradiction fun hc=>?_
 have hr:∀i,i< 2* n+1→coP m i=trP N (mulP W (gK [1] i)):=fun i hi=>Classical.byContradiction fun e=>hc ⟨i,by omega,e⟩
 have hM:=mon_dg hN hm
 rw[hd] at hM
 have hl:(trimQ N).length≤n+1:=by unfold dg at hd;omega
 have h1:=o_few1 hn hM
 have h2:=oL_ hN hr (p:=mulP N N) (by have:=nG_ hl hl;omega)
 rw[l5_ hN] at h2
 unfold bl2 at h1
 rw[h2] at h1
 exact absurd h1 (by decide)
theorem r9_{N W m:List Rat}{n:Nat}(hN:nz N)(hm:leadP N=1)(hd:dg N=n)(hn:∀j,j< n→0< oN m j)(hr:∀i,i< 2* n→coP m i=trP N (mulP W (gK [1] i))):Eqv N (oP m n):=by
 have hM:=mon_dg hN hm
 rw[hd] at hM
 have hl:(trimQ N).length≤n+1:=by unfold dg at hd;omega
 refine o_few2 hn hM fun q hq=>?_
 have h2:=oL_ hN hr (p:=mulP N q) (by have:=nG_ hl (fb_ hq);omega)
 rw[l5_ hN] at h2
 exact h2
theorem few_wt {N N' W W' m A B:List Rat} (hN:nz N) (hm:leadP N=1) (h1:1≤dg N) (ht:trimQ N=N) (hE:Eqv N' N) (hco:∀x,evalP A x* evalP N x+evalP B x* dvE N x=1)
    (hr:∀i,i< dg N→coP m i=trP N' (mulP W (gK [1] i))) (dW:nz W→dg W< dg N) (hW':∃z,∀x,evalP W' x* dvE N x=evalP (tpQ N m) x+evalP z x* evalP N x) (dW':nz W'→dg W'< dg N):Eqv W W':=by
 have hr':∀i,i< dg N→coP m i=trP N (mulP W (gK [1] i)):=fun i hi=>by
  rw[hr i hi]
  unfold trP
  rw[dg_eqv hE,rg_ (p:=mulP (mulP W (gK [1] i)) (ax_ N')) (p':=mulP (mulP W (gK [1] i)) (ax_ N)) (fun x=>by simp only[ar_,br_];rw[lo_ hE]) hE]
 exact wt_uniq hN hco (wt_rule hN hm h1 ht hr') hW' dW dW'
def IB(x:Rat)(h:Nat):Prop:=∃z:Int,x=(z:Rat)∧bl z.natAbs≤h
theorem IB.mono{x:Rat}{h k:Nat}(H:IB x h)(hk:h≤k):IB x k:=by obtain⟨z,e,b⟩:=H;exact⟨z,e,by omega⟩
theorem IB.zero(h:Nat):IB 0 h:=⟨0,rfl,Nat.zero_le _⟩
theorem IB.one:IB 1 1:=⟨1,rfl,by decide⟩
theorem IB.mul{x y:Rat}{h k:Nat}(H:IB x h)(K:IB y k):IB (x* y) (h+k):=by
 obtain⟨z,e,b⟩:=H
 obtain⟨w,e',b'⟩:=K
 exact⟨z* w,by rw[e,e',Rat.intCast_mul],bx_ b b'⟩
theorem IB.add{x y:Rat}{h:Nat}(H:IB x h)(K:IB y h):IB (x+y) (h+1):=by
 obtain⟨z,e,b⟩:=H
 obtain⟨w,e',b'⟩:=K
 exact⟨z+w,by rw[e,e',Rat.intCast_add],jg_ b b'⟩
theorem IB.neg{x:Rat}{h:Nat}(H:IB x h):IB (-x) h:=by
 obtain⟨z,e,b⟩:=H
 exact⟨-z,by rw[e,Rat.intCast_neg],by rwa[Int.natAbs_neg]⟩
theorem IB.eq{x y:Rat}{h:Nat}(H:IB x h)(e:x=y):IB y h:=e▸H
structure HS (p:List Rat)(K:Rat)(h:Nat):Prop where
 ne:K≠0
 sc:IB K h
 co:∀i,IB (coP p i* K) h
theorem HS.ht{p:List Rat}{K:Rat}{h:Nat}(H:HS p K h):Ht p h:=⟨K,H.ne,fun i=>by
 obtain⟨z,e,b⟩:=H.co i
 exact⟨z,e,b⟩⟩
theorem HS.bd{p:List Rat}{K:Rat}{h n:Nat}(H:HS p K h)(hp:Mon p n)(h1:1≤h):bdL p h:=fun q hq=>by
 obtain⟨i,hi,e⟩:=i9_ hq
 have:=H.ht.quot i n (by rw[hp.1];decide) h1
 rw[hp.1] at this
 rw[←e,show coP p i=coP p i/ 1 by grind]
 exact this
theorem coP_mulP(p q:List Rat)(n:Nat):coP (mulP p q) n=convP p q p.length n:=by
 rw[←lt_]
 exact trim_iff.1 (cL_ fun x=>by rw[ar_,hk_]) n
theorem sv_{p q:List Rat}{K K':Rat}{h h':Nat}(H:HS p K h)(H':HS q K' h')(n:Nat):∀i,IB (convP p q i n* (K* K')) (h+h'+i)
 |0=>(IB.zero _).eq (by show 0=0* _;grind)
 |i+1=>by
  have ih:=sv_ H H' n i
  have hx:IB ((if i≤n then coP p i* coP q (n- i) else 0) * (K* K')) (h+h'+i):=by
   split
   exact(((H.co i).mul (H'.co (n- i))).eq (by grind)).mono (by omega)
   exact(IB.zero _).eq (by grind)
  exact((ih.add hx).eq (by rw[convP];grind)).mono (by omega)
theorem HS.mul{p q:List Rat}{K K':Rat}{h h' L:Nat}(H:HS p K h)(H':HS q K' h')(hl:p.length≤L):HS (mulP p q) (K* K') (h+h'+L) where
 ne e:=(Rat.mul_eq_zero.1 e).elim H.ne H'.ne
 sc:=(H.sc.mul H'.sc).mono (by omega)
 co i:=by
  rw[coP_mulP]
  exact(sv_ H H' i p.length).mono (by omega)
theorem ofQ_IB{p m:List Rat}{K k:Rat}{h M:Nat}(H:HS p K h)(hm:∀i,IB (coP m i* k) M):∀n,IB (ofQ p m n* (K* k)) (h+M+n)
 |0=>(IB.zero _).eq (by show 0=0* _;grind)
 |n+1=>by
  have ih:=ofQ_IB H hm n
  have hx:IB (coP p n* coP m n* (K* k)) (h+M+n):=(((H.co n).mul (hm n)).eq (by grind)).mono (by omega)
  exact((ih.add hx).eq (by rw[ofQ];grind)).mono (by omega)
theorem ofP_IB{p m:List Rat}{K k:Rat}{h M L:Nat}(H:HS p K h)(hm:∀i,IB (coP m i* k) M)(hl:p.length≤L):IB (ofP m p* (K* k)) (h+M+L):=by
 have hl2:=aI_ p
 rw[ofP_n (n:=p.length) hl2]
 exact(ofQ_IB H hm p.length).mono (by omega)
theorem HS.shift{p:List Rat}{K:Rat}{h:Nat}(H:HS p K h):HS (mulP p [0,1]) K h where
 ne:=H.ne
 sc:=H.sc
 co i:=by
  rw[coP_x]
  cases i with
  |zero=>exact(IB.zero h).eq (by show 0=0* K;grind)
  |succ i=>exact H.co i
theorem HS.step {p l r:List Rat} {K K' A B B' a b:Rat} {h h' M:Nat} (H:HS p K h) (H':HS l K' h') (hB:IB B (2* h+M)) (hA:IB A (2* h+M)) (hB':IB B' (2* h'+M)) (b0:B≠0) (b0':B'≠0) (ha:a* B=A)
    (hb:∀i,coP l i* b* (B'* K* K)=coP l i* K'* K'* B) (hr:∀i,coP r i=coP p i* -a+lag p i- coP l i* b):HS r (K* K* B* B') (4* h+2* h'+2* M+2) where
 ne e:=by
  rcases Rat.mul_eq_zero.1 e with e|e
  rcases Rat.mul_eq_zero.1 e with e|e
  rcases Rat.mul_eq_zero.1 e with e|e <;> exact H.ne e
  exact b0 e
  exact b0' e
 sc:=(((H.sc.mul H.sc).mul hB).mul hB').mono (by omega)
 co i:=by
  have hlag:IB (lag p i* K) h:=by
   cases i with
   |zero=>exact(IB.zero h).eq (by show 0=0* K;grind)
   |succ i=>exact H.co i
  have t1:=((((H.co i).mul H.sc).mul hB').mul hA).neg
  have t2:=((hlag.mul H.sc).mul hB').mul hB
  have t3:=((((H'.co i).mul H'.sc).mul hB).mul hB).neg
  have hb:=hb i
  have s1:=(t1.mono (show _≤4* h+2* h'+2* M by omega)).add (t2.mono (show _≤4* h+2* h'+2* M by omega))
  have s2:=s1.add (t3.mono (show _≤4* h+2* h'+2* M+1 by omega))
  refine s2.eq ?_
  rw[hr,←ha]
  have e3:coP l i* b* (K* K* B* B')=coP l i* K'* K'* B* B:=by
   have:coP l i* b* (K* K* B* B')=coP l i* b* (B'* K* K) * B:=by grind
   rw[this,hb]
  grind
end Go.Abs
