/- Part O13 of the proof. -/
import Derived.Test.YtdjfjpeoddmamaaGreatDoorO12
set_option linter.all false
namespace Go.Abs
def hG:Nat→Nat→Nat→Nat→Nat→Nat→Bool
 |0,_,_,_,_,_=>false
 |f+1,m,n,s,t,X=>if n=0 then decide (s≤X) else
  decide (2^ (m+1- n) * (s+2* t+1)≤137438953472) && (List.range n).all fun k=>hG f n k t (s+(m+1- n) * (t+1)) X
theorem ld_:∀f m n s t X (p q:List Rat),hG f m n s t X=true→(trimQ p).length=m→(trimQ q).length=n→bdL p s→bdL q t→Ht p s→Ht q t→1≤s→1≤t→p.length≤1000→q.length≤1000→X≤137438953472→
    ∃g,gcdM f p q=some g∧g.length≤1000∧Ht g X∧bdL g X
 |0,_,_,_,_,_,_,_,h,_,_,_,_,_,_,_,_,_,_,_=>by cases h
 |f+1,m,n,s,t,X,p,q,h,hm,hn,hp,hq,kp,kq,hs,ht,hp1,hq1,hX=>by
  rw[hG] at h;rw[gcdM];by_cases h0:n=0;rw[if_pos h0] at h;have hsX:=of_decide_eq_true h;have e:trimQ q=[]:=List.length_eq_zero_iff.1 (by omega);rw[if_pos e,if_pos (ft_ hp (by omega))];obtain⟨a,b⟩:=kp.monic hs;exact⟨_,rfl,Nat.le_trans (f7_ p) hp1,b.mono hsX,fun x hx=>Nat.le_trans (a x hx) hsX⟩;rw[if_neg h0] at h;simp only[Bool.and_eq_true,decide_eq_true_eq,List.all_eq_true,List.mem_range] at h;obtain⟨hL,hk⟩:=h;have hq0:trimQ q≠[]:=fun e=>by grind
  have hmp:=bN_ hp hs;have hmq:=bN_ hq ht;have hmono:2^ (m+1- n) * (mxL p+2* mxL q+1)≤2^ (m+1- n) * (s+2* t+1):=Nat.mul_le_mul_left _ (by omega);rw[if_neg hq0,if_pos (show okDiv p q from⟨by grind,by omega,by omega⟩)];have hd:=(ju_ kp kq hq0).2;rw[hm,hn] at hd;obtain⟨b1,b2⟩:=hd.monic (by omega);have hlen:=(fj_ (p:=p) (q:=q)).2;have hml:=f7_ (divP p q).2;have hkn:(trimQ (divP p q).2).length< n:=by rw[←hn];exact(cm_ p q hq0).2
  have hmn:(trimQ (aG_ (divP p q).2)).length=(trimQ (divP p q).2).length:=by
   by_cases hz:trimQ (divP p q).2=[];unfold aG_;rw[if_pos hz,hz];rfl;unfold aG_;rw[if_neg hz];exact eK_ fun e=>by have:=Rat.div_mul_cancel (a:=1) (bw_ hz);grind
  exact ld_ f n _ t _ X q _ (hk _ hkn) hn hmn hq b1 kq b2 ht (by omega) hq1 (by omega) hX
def cB:Nat→Nat→Nat→Nat→Nat→Nat→Nat→Bool
 |0,_,_,_,_,_,_=>false
 |f+1,m,n,s,t,b,T=>if n=0 then true else
  decide (t≤T) && decide ((n+4) * b≤34359738368) && decide (2^ (m+1- n) * (s+2* t+1)≤137438953472) &&
   (List.range n).all fun k=>cB f n k t (s+(m+1- n) * (t+1)) (2^ (m+1- n) * (s+2* t+1)) T
theorem jG_:∀k f m n s t b T (last next:List Rat) (acc:List (List Rat)),cB k m n s t b T=true→(trimQ last).length=m→(trimQ next).length=n→next.length=n→bdL last s→Ht last s→Ht next t→bdL next b→1≤s→1≤t→1≤b→last.length≤1000→next.length≤1000→
    ∃out,en_ f k last next acc=some out∧out.length≤acc.length+n∧∀q∈out,q∈acc∨(nz q∧q.length≤n∧bdL q T)
 |0,_,_,_,_,_,_,_,_,_,_,h,_,_,_,_,_,_,_,_,_,_,_,_=>by cases h
 |k+1,f,m,n,s,t,b,T,last,next,acc,h,hm,hn,hnl,hl,kl,kn,hnb,hs,ht,hb,hl1,hn1=>by
  rw[cB] at h;rw[en_];by_cases h0:n=0
  ·grind
  rw[if_neg h0] at h;simp only[Bool.and_eq_true,decide_eq_true_eq,List.all_eq_true,List.mem_range] at h;obtain⟨⟨⟨hT,hP⟩,hL⟩,hk⟩:=h;have hq0:trimQ next≠[]:=fun e=>by grind
  obtain⟨p1,p2⟩:=kn.prim hq0 ht;obtain⟨c,c0,hc⟩:=fD_ hq0;obtain⟨d1,d2,_⟩:=cu_ hq0 (show c≠0 by grind) hc
  have hpn:(trimQ (primP next)).length=n:=by
   have a1:=List.length_pos_iff.2 d1;have a2:=List.length_pos_iff.2 hq0;unfold dg at d2;omega
  have hmb:=bN_ hnb hb;have hml:=bN_ hl hs;have hmp:=bN_ p1 ht
  have hpl:(primP next).length=n:=by
   unfold primP;unfold primP at hpn;rw[←hpn];unfold av_;rw[aO_]
  have hmono:2^ (m+1- n) * (mxL last+2* mxL (primP next)+1)≤2^ (m+1- n) * (s+2* t+1):=Nat.mul_le_mul_left _ (by omega);have hmono2:(n+4) * mxL next≤(n+4) * b:=Nat.mul_le_mul_left _ hmb
  rw[if_neg hq0,if_pos (show mr_ next∧okDiv last (primP next)∧trimQ (primP next)≠[] from⟨⟨by grind,by omega⟩,⟨by grind,by omega,by omega⟩,d1⟩)];have hd:=(ju_ kl p2 d1).2;rw[hm,hpn] at hd;have hbd:=(fk_ hl p1 hs ht d1 (by rw[hm,hpn];exact Nat.le_refl _)).2;have hL1:1≤2^ (m+1- n) * (s+2* t+1):=Nat.mul_pos (Nat.two_pow_pos _) (by omega);have hm1:(-1:Rat)≠0:=by decide+kernel
  have hkn:(trimQ (av_ (divP last (primP next)).2 (-1))).length< n:=by rw[eK_ hm1,←hpn];exact(cm_ last _ d1).2
  have hsl:(av_ (divP last (primP next)).2 (-1)).length=(trimQ (av_ (divP last (primP next)).2 (-1))).length:=by unfold av_;rw[aO_]
  obtain⟨out,o1,o2,o3⟩:=jG_ k f n _ t _ _ T (primP next) (av_ (divP last (primP next)).2 (-1)) (acc++[primP next]) (hk _ hkn) hpn rfl hsl p1 p2 (hd.scale hm1 fun i=>a5_ _ _ i)
   (dM_ fun i=>by
    rw[a5_,show coP (divP last (primP next)).2 i* -1= -coP (divP last (primP next)).2 i by grind,dG_];exact bj_ hbd hL1 i) ht (by omega) hL1 (by omega) (by omega)
  refine⟨out,o1,?_,fun q hq=>?_⟩;rw[List.length_append,List.length_singleton] at o2;omega;rcases o3 q hq with h|⟨a,b',c'⟩
  rcases List.mem_append.1 h with h|h
  exact .inl h;rw[List.mem_singleton.1 h];exact .inr ⟨d1,by omega,fun x hx=>Nat.le_trans (p1 x hx) hT⟩;grind
theorem hG_all:((List.range 8).all fun m=>(List.range m).all fun n=>hG 9 m n 161 165 20000)=true:=by decide+kernel
theorem cB_all:((List.range 8).all fun m=>(List.range m).all fun n=>cB 9 m n 140168 140172 140172 20000000)=true:=by decide+kernel
theorem cT_(p:List Rat)(k:Rat):trimQ (av_ p k)=av_ p k:=aO_ _
theorem di_(p:List Rat):trimQ (aG_ p)=aG_ p:=by
 unfold aG_;split;rfl;exact aO_ _
theorem fQ_{p:List Rat}(h:nz p):(at_ p).length< (trimQ p).length:=by
 have h0:=List.length_pos_iff.2 h
 have e:at_ p=at_ (trimQ p):=by
  have h1:trimQ (at_ p)=at_ p:=aO_ _;have h2:trimQ (at_ (trimQ p))=at_ (trimQ p):=aO_ _;rw[←h1,←h2];exact eo_ fun i=>by rw[bm_,bm_,bg_]
 have:=dd_ (trimQ p);grind
theorem eS_{p:List Rat}{s g:Nat}(hl:(trimQ p).length≤7)(hb:bdL p s)(hs:1≤s)(hH:Ht p g):bdL (at_ p) (s+4)∧Ht (at_ p) (g+4):=by
 have e:∀i,coP (at_ p) i=coP (at_ (trimQ p)) i:=fun i=>by rw[bm_,bm_,bg_]
 constructor;refine dM_ fun i=>?_;rw[bm_];by_cases hi:i+1< (trimQ p).length;have h1:=bJ_ (coP p (i+1)) (nQ (i+1));have h2:=qs_nQ (n:=i+1) (k:=3) (bl_le (by omega)) (by decide);have h3:=bj_ hb hs (i+1);exact Nat.le_trans h1 (by omega);rw[←bg_,co_ (show(trimQ p).length≤i+1 by omega),Rat.zero_mul];exact Nat.le_trans (by decide:qs 0≤1) (by omega);refine((hH.trim).derive.scale (c:=1) (r:=at_ p) (by grind) fun i=>by grind).mono ?_;have:bl (trimQ p).length≤3:=bl_le (by omega);omega
theorem rc_{p:List Rat}(np:nz p)(hl:(trimQ p).length≤7)(hp:p.length≤1000)(hb:bdL p 20):∃s,sqfM 9 p=some s∧nz s∧s.length≤7∧Ht s 140168∧bdL s 140168:=by
 have hH:Ht p 161:=(Ht.of (s:=20) (p:=trimQ p) fun q hq=>hb q (be_ hq)).untrim.mono (by omega);have hdl:=fQ_ np;have hdt:trimQ (at_ p)=at_ p:=aO_ _;have hd0:=eS_ hl hb (by decide) hH;have hd:bdL (at_ p) 165∧Ht (at_ p) 165:=⟨fun x hx=>Nat.le_trans (hd0.1 x hx) (by decide),hd0.2⟩;have hg:=hG_all;simp only[List.all_eq_true,List.mem_range] at hg;obtain⟨g,g1,g2,g3,g4⟩:=ld_ 9 _ _ 161 165 20000 p (at_ p) (hg _ (by omega) _ (by grind)) rfl rfl (fun x hx=>Nat.le_trans (hb x hx) (by decide)) hd.1 hH hd.2 (by decide) (by decide) hp (by omega) (by decide);obtain⟨z0,z1,z2,a,b,z3⟩:=dX_ 9 _ _ _ g1 (.inl np);obtain⟨u,hu⟩:=z1;obtain⟨m1,m2⟩:=bY_ p z0;have hm:=dl_ (u:=u) (v:=[]) z0 (fun x=>by rw[hu x,ax_];grind) (fun e=>absurd rfl e)
 have hs:∀x,evalP p x=evalP (divP p g).1 x* evalP g x:=fun x=>by
  have:=m1 x;rw[hm x,ax_] at this;grind
 obtain⟨n1,n2⟩:=ck_ hs np;have e1:=(dg_mul' n1 n2 hs).2.1;have e2:=(db_ n1).2.2;have e3:=(db_ n1).2.1;have hlg:=List.length_pos_iff.2 z0;have h1:=bN_ hb (by decide);have h2:=bN_ g4 (by decide);have hpow:2^ ((trimQ p).length+1- (trimQ g).length)≤2^ 7:=Nat.pow_le_pow_right (by decide) (by omega);have hmul:=Nat.mul_le_mul hpow (show mxL p+2* mxL g+1≤50000 by omega);have hq:=(ju_ hH g3 z0).1;obtain⟨q1,q2⟩:=(hq.mono (show _≤140168 by omega)).monic (by decide);refine⟨aG_ (divP p g).1,?_,e3,?_,q2,q1⟩;unfold sqfM;rw[if_pos ⟨ft_ hb (by decide),by omega⟩,g1,Option.bind_some,if_pos ⟨z0,by omega,by omega,by omega⟩];have:=di_ (divP p g).1;rw[←this];unfold dg at e1 e2;omega
theorem nc_{p:List Rat}(np:nz p)(hl:(trimQ p).length≤7)(hp:p.length≤1000)(hb:bdL p 20):∃c,cn_ 9 p=some c∧okCnt c∧c.ch.length≤8∧(∀q∈c.ch,nz q∧q.length≤7∧bdL q 20000000)∧nz c.p∧c.p.length≤7∧bdL c.p 140168:=by
 obtain⟨s,s1,s2,s3,s4,s5⟩:=rc_ np hl hp hb;have hst:=aB_ s;have hsp:=List.length_pos_iff.2 s2;obtain⟨p1,p2⟩:=s4.prim s2 (by decide);obtain⟨c,c0,hc⟩:=fD_ s2;obtain⟨d1,d2,_⟩:=cu_ s2 (show c≠0 by grind) hc
 have hpn:(trimQ (primP s)).length=(trimQ s).length:=by
  have a1:=List.length_pos_iff.2 d1;unfold dg at d2;omega
 have hpl:(primP s).length=(trimQ (primP s)).length:=by unfold primP;rw[cT_]
 have hdl:=fQ_ s2;have hdt:trimQ (at_ s)=at_ s:=aO_ _;have hd:=eS_ (by omega) s5 (by decide) s4;have hC:=cB_all;simp only[List.all_eq_true,List.mem_range] at hC;obtain⟨out,o1,o2,o3⟩:=jG_ 9 9 _ _ 140168 140172 140172 20000000 (primP s) (at_ s) [primP s] (hC (trimQ s).length (by omega) (at_ s).length hdl) hpn (by grind) rfl p1 p2 hd.2 hd.1 (by decide) (by decide) (by decide) (by omega) (by omega);have hmx:=bN_ s5 (by decide);have hmul:=Nat.mul_le_mul (show s.length+4≤11 by omega) hmx
 have hst':er_ 9 s=some out:=by
  unfold er_;rw[if_pos ⟨ft_ s5 (by decide),⟨by omega,by omega⟩,s2⟩];grind
 have hall:∀q∈out,nz q∧q.length≤7∧bdL q 20000000:=fun q hq=>by
  rcases o3 q hq with h|⟨a,b,d⟩
  rw[List.mem_singleton.1 h];exact⟨d1,by omega,fun x hx=>Nat.le_trans (p1 x hx) (by decide)⟩;grind
 rw[List.length_singleton] at o2;have hok:okCnt ⟨s,out,chL (out.map sgI) 0 0⟩:=⟨fun q hq=>⟨(hall q hq).1,by grind⟩,by grind,rfl⟩;refine⟨⟨s,out,chL (out.map sgI) 0 0⟩,?_,hok,by grind,hall,s2,s3,s5⟩;unfold cn_;grind
def gsz:Nat→List Rat→List Rat→Nat→Prop
 |0,_,_,_=>False
 |f+1,p,q,B=>bdL p B∧(nz q→bdL q B∧gsz f q (aG_ (divP p q).2) B)
theorem hG_top{f m n s t X:Nat}(h:hG f m n s t X=true)(h0:n≠0):t≤X:=by
 cases f with
 |zero=>cases h
 |succ f=>
  rw[hG,if_neg h0] at h;simp only[Bool.and_eq_true,List.all_eq_true,List.mem_range] at h;have:=h.2 0 (by omega);cases f with
  |zero=>cases this
  |succ f=>
   rw[hG] at this;grind
theorem sC_:∀f m n s t X (p q:List Rat),hG f m n s t X=true→(trimQ p).length=m→(trimQ q).length=n→bdL p s→bdL q t→Ht p s→Ht q t→1≤s→1≤t→s≤X→gsz f p q X
 |0,_,_,_,_,_,_,_,h,_,_,_,_,_,_,_,_,_=>by cases h
 |f+1,m,n,s,t,X,p,q,h,hm,hn,hp,hq,kp,kq,hs,ht,hX=>by
  have htop:=hG_top h;rw[hG] at h;refine⟨fun x hx=>Nat.le_trans (hp x hx) hX,fun hq0=>?_⟩;have h0:n≠0:=by have:=List.length_pos_iff.2 hq0;omega
  have htX:=htop h0;rw[if_neg h0] at h;simp only[Bool.and_eq_true,List.all_eq_true,List.mem_range] at h;obtain⟨hL,hk⟩:=h;have hd:=(ju_ kp kq hq0).2;rw[hm,hn] at hd;obtain⟨b1,b2⟩:=hd.monic (by omega);have hkn:(trimQ (divP p q).2).length< n:=by rw[←hn];exact(cm_ p q hq0).2
  have hmn:(trimQ (aG_ (divP p q).2)).length=(trimQ (divP p q).2).length:=by
   by_cases hz:trimQ (divP p q).2=[];unfold aG_;rw[hz];rfl;unfold aG_;rw[if_neg hz];exact eK_ fun e=>by have:=Rat.div_mul_cancel (a:=1) (bw_ hz);grind
  exact⟨fun x hx=>Nat.le_trans (hq x hx) htX,sC_ f n _ t _ X q _ (hk _ hkn) hn hmn hq b1 kq b2 ht (by omega) htX⟩
theorem hy_{p q:List Rat}{k l:Rat}(h:∀i,coP p i* k=coP q i* l):av_ p k=av_ q l:=by
 have h1:=cT_ p k;have h2:=cT_ q l;rw[←h1,←h2];exact eo_ fun i=>by rw[a5_,a5_,h]
theorem i0_(p:List Rat):aG_ (trimQ p)=aG_ p:=by
 unfold aG_;rw[aO_,hE_];split;rfl;exact hy_ fun i=>by rw[bg_]
def denP:List Rat→Nat→Nat
 |[],k=>k
 |c::l,k=>denP l (k* c.den)
theorem pN_:∀(l:List Rat) (d k:Nat),d∣k→denL l d∣denP l k
 |[],_,_,h=>h
 |c::l,d,k,h=>pN_ l _ _ (Nat.lcm_dvd (Nat.dvd_trans h (Nat.dvd_mul_right _ _)) (Nat.dvd_mul_left _ _))
theorem om_:∀(l:List Rat) {k:Nat},k≠0→denP l k≠0
 |[],_,h=>h
 |c::l,_,h=>om_ l (Nat.mul_ne_zero h c.den_nz)
theorem tu_{s:Nat}:∀(l:List Rat) (k:Nat),bdL l s→bl (denP l k)≤bl k+l.length* s
 |[],k,_=>by simp[denP]
 |c::l,k,h=>by
  have h1:=tu_ l (k* c.den) fun q hq=>h q (List.mem_cons_of_mem _ hq);have h2:=e0_ k c.den;have h3:=bU_ c;have h4:=h c (List.mem_cons_self ..);rw[denP,List.length_cons,Nat.succ_mul];omega
def gcdN:List Rat→Nat→Nat
 |[],g=>g
 |c::l,g=>gcdN l (Nat.gcd g (absQ c).num.natAbs)
theorem sB_{D m:Nat}(hm:m≠0):∀(l:List Rat) (n:Nat),(∀c∈l,c.den∣D)→gcdN (l.map fun c=>c* nQ (D* m)) (n* m)=numL D l n* m
 |[],n,_=>rfl
 |c::l,n,h=>by
  have hc:=h c (List.mem_cons_self ..);have h1:=gT_ c (D* m) (Nat.dvd_trans hc (Nat.dvd_mul_right _ _))
  have h2:intC c (D* m)=intC c D* m:=by
   obtain⟨k,hk⟩:=hc;have hpos:0< c.den:=c.den_pos;have e1:D* m/ c.den=k* m:=by rw[hk,Nat.mul_assoc,Nat.mul_div_cancel_left _ hpos]
   have e2:D/ c.den=k:=by simp_all
   unfold intC;grind
  rw[List.map_cons,gcdN,h1,h2];show gcdN _ (Nat.gcd (n* m) ((intC c D* m:Nat):Int).natAbs)=_;rw[Int.natAbs_natCast,Nat.gcd_mul_right];exact sB_ hm l _ fun x hx=>h x (List.mem_cons_of_mem _ hx)
theorem q4_(p:List Rat)(k:Rat):tabP p.length (fun i=>coP p i* k)=p.map fun c=>c* k:=by
 apply List.ext_getElem?;intro i;unfold tabP;rw[List.getElem?_map,List.getElem?_map];by_cases hi:i< p.length;rw[List.getElem?_range hi,a9_ hi];rfl;grind
theorem me_{p:List Rat}{k:Rat}(hp:trimQ p=p)(hk:k≠0):av_ p k=p.map fun c=>c* k:=by
 unfold av_;rw[q4_];have h1:=eK_ (p:=p) hk;unfold av_ at h1;rw[q4_,aO_] at h1;have h2:=gL_ (p.map fun c=>c* k);grind
theorem prim_doc{p:List Rat}(h:nz p):av_ (av_ (trimQ p) (nQ (denP (trimQ p) 1))) (1/ nQ (gcdN (av_ (trimQ p) (nQ (denP (trimQ p) 1))) 0))=primP p∧gcdN (av_ (trimQ p) (nQ (denP (trimQ p) 1))) 0≠0:=by
 have hD0:denL (trimQ p) 1≠0:=hK_ _ (by decide);have hK0:denP (trimQ p) 1≠0:=om_ _ (by decide);obtain⟨m,hm⟩:=pN_ (trimQ p) 1 1 (Nat.dvd_refl 1);have hm0:m≠0:=fun e=>hK0 (by grind);have hg:=sB_ hm0 (trimQ p) 0 (eD_ (trimQ p) 1).2
 have hN0:numL (denL (trimQ p) 1) (trimQ p) 0≠0:=by
  intro e;have h1:=(gS_ (denL (trimQ p) 1) (trimQ p) 0).2;have h2:=(eD_ (trimQ p) 1).2;have hl:=List.length_pos_iff.2 h;have hg:=bD_ (l:=p) (n:=(trimQ p).length- 1) (by omega);have hmm:=List.mem_of_getElem? hg;have h3:=h1 _ hmm;rw[e] at h3;exact la_ (h2 _ hmm) hD0 (bw_ h) (Nat.eq_zero_of_zero_dvd h3)
 have hmap:av_ (trimQ p) (nQ (denP (trimQ p) 1))=(trimQ p).map fun c=>c* nQ (denP (trimQ p) 1):=me_ (aO_ p) (fun e=>hK0 (nQ_zero.1 e));rw[Nat.zero_mul,←hm,←hmap] at hg;refine⟨?_,by rw[hg];exact Nat.mul_ne_zero hN0 hm0⟩;rw[hg];refine hy_ fun i=>?_;rw[a5_,hm];have hmq:nQ m≠0:=fun e=>hm0 (nQ_zero.1 e);grind
theorem root_dv{g:List Rat}{a:Rat}(h:evalP g a=0):∃w:List Rat,∀x,evalP g x=evalP w x* evalP [-a,1] x:=by
 have hd:nz [-a,1]:=by
  intro e;have:=trim_nil_iff.1 e 1;rw[bI_,ce_] at this;grind
 have hdd:dg [-a,1]=1:=(f4_ (n:=1) ⟨by rw[bI_,ce_];grind,fun i hi=>by
  obtain⟨j,rfl⟩:∃j,i=j+2:=⟨i- 2,by omega⟩;rfl⟩).2.1
 obtain⟨m1,m2⟩:=bY_ g hd
 have hr:∀x,evalP (md g [-a,1]) x=0:=by
  by_cases hn:nz (md g [-a,1]);obtain⟨c,c0,hc⟩:=hV_ hn (by grind);have:=m1 a;rw[kB_] at this;exact absurd (by grind) c0;exact dJ_ hn
 exact⟨(divP g [-a,1]).1,fun x=>by grind⟩
theorem root_sqf{p s g:List Rat}(hp:nz p)(h1:∀x,evalP p x=evalP s x* evalP g x)(h2:Dv g (at_ p)){a:Rat}(ha:evalP p a=0):evalP s a=0:=by
 by_cases hs:evalP s a=0;exact hs;exfalso;obtain⟨n1,n2⟩:=ck_ h1 hp;obtain⟨v,hv⟩:=h2
 have hdn:nz [-a,1]:=by
  intro e;have:=trim_nil_iff.1 e 1;rw[bI_,ce_] at this;grind
 have hdd:dg [-a,1]=1:=(f4_ (n:=1) ⟨by rw[bI_,ce_];grind,fun i hi=>by
  obtain⟨j,rfl⟩:∃j,i=j+2:=⟨i- 2,by omega⟩;rfl⟩).2.1
 have hda:evalP [-a,1] a=0:=by rw[kB_];grind
 have hdv:∀x,dvE [-a,1] x=1:=fun x=>by
  rw[ci_,ci_,ay_,ax_,show dvE [] x=0 from rfl];grind
 have key:∀k,∃w:List Rat,∀x,evalP g x=evalP w x* evalP (pw [-a,1] k) x:=by
  intro k
  induction k with
  |zero=>exact⟨g,fun x=>by rw[pw,ay_,ax_];grind⟩
  |succ k ihk=>
   obtain⟨w,hw⟩:=ihk
   have hwa:evalP w a=0:=by
    cases k with
    |zero=>
     have e:=hw a;rw[pw,ay_,ax_] at e;grind
    |succ k=>
     obtain⟨W,hW⟩:∃W,W=mulP s w:=⟨_,rfl⟩;have q1:∀x,evalP p x=evalP W x* evalP (pw [-a,1] (k+1)) x:=fun x=>by rw[h1,hw,hW,ak_];grind
     have q2:∀x,evalP (at_ p) x=dvE W x* evalP (pw [-a,1] (k+1)) x+evalP W x* dvE (pw [-a,1] (k+1)) x:=fun x=>by
      rw[a4_,jr_ (q:=mulP W (pw [-a,1] (k+1))) (fun x=>by rw[q1,ak_]) x,hI_]
     obtain⟨Z,hZ⟩:∃Z,Z=subP (av_ W (((k+1:Nat):Int):Rat)) (mulP (subP (mulP v w) (derL W)) [-a,1]):=⟨_,rfl⟩
     have q3:∀x,evalP Z x* evalP (pw [-a,1] k) x=0:=fun x=>by
      have e1:=q2 x;have e2:=pw_dv [-a,1] k x;have e4:evalP (pw [-a,1] (k+1)) x=evalP (pw [-a,1] k) x* evalP [-a,1] x:=ak_ _ _ _;rw[hv,hw,e2,hdv,e4] at e1;rw[hZ,bf_,as_,ak_,bf_,ak_,gd_];grind
     have q4:¬nz Z:=fun hz=>by
      have:=(dg_mul' hz (pw_dg hdn k).1 (r:=[]) (fun x=>by rw[q3,ax_])).1;exact this rfl
     have q5:=dJ_ q4 a;rw[hZ,bf_,as_,ak_,hda,hW,ak_] at q5;have q6:evalP s a* evalP w a* (((k+1:Nat):Int):Rat)=0:=by grind
     rcases Rat.mul_eq_zero.1 q6 with e|e
     exact(Rat.mul_eq_zero.1 e).resolve_left hs;have:((k+1:Nat):Int)=0:=by exact_mod_cast e
     omega
   obtain⟨u,hu⟩:=root_dv hwa;exact⟨u,fun x=>by rw[hw,hu,pw,ak_];grind⟩
 obtain⟨w,hw⟩:=key (dg g+1);obtain⟨m1,m2⟩:=ck_ hw n2;have m3:=(dg_mul' m1 m2 hw).2.1;rw[(pw_dg hdn _).2,hdd] at m3;omega
theorem rd_{f:Nat}{p s:List Rat}(h:sqfM f p=some s)(hp:nz p)(a:Rat):evalP s a=0↔evalP p a=0:=by
 unfold sqfM at h;split at h;cases hg:gcdM f p (at_ p) with
 |none=>grind
 |some g=>
  rw[hg,Option.bind_some] at h;split at h;cases h;obtain⟨g0,g1,g2,a',b,g3⟩:=dX_ f _ _ _ hg (.inl hp);obtain⟨m1,m2⟩:=bY_ p g0;obtain⟨u,hu⟩:=g1;have hm:=dl_ (u:=u) (v:=[]) g0 (fun x=>by rw[hu x,ax_];grind) (fun e=>absurd rfl e)
  have hs:∀x,evalP p x=evalP (divP p g).1 x* evalP g x:=fun x=>by
   have:=m1 x;rw[hm x,ax_] at this;grind
  obtain⟨k,k',hk,m⟩:=hC_ (divP p g).1;have hk0:k≠0:=fun e=>by grind
  rw[m];constructor;intro e;rcases Rat.mul_eq_zero.1 e with e|e
  grind;exact absurd e hk0;intro e;rw[root_sqf hp hs g2 e];grind;cases h
 cases h
theorem boL_qs{lead:Rat}{s:Nat}(hl:qs lead≤s):∀(l:List Rat) (m:Rat),bdL l s→qs m≤2* s+1→qs (boL lead l m)≤2* s+1
 |[],m,_,h=>h
 |c::l,m,hb,h=>by
  refine boL_qs hl l _ (fun q hq=>hb q (List.mem_cons_of_mem _ hq)) (nS_ (fun x hx=>?_) (Nat.le_add_left 1 _));have h1:=hb c (List.mem_cons_self ..);have h2:=cX_ c lead;rcases List.mem_cons.1 hx with rfl|hx
  exact h;rw[List.mem_singleton.1 hx,mk_];omega
theorem iw_{p:List Rat}{s:Nat}(h:bdL p s)(hs:1≤s):qs (aN_ p)≤2* s+3:=by
 have h1:=boL_qs (gB_ h hs) ((trimQ p).take ((trimQ p).length- 1)) 0 (fun q hq=>h q (be_ (List.mem_of_mem_take hq))) (Nat.le_trans (by decide:qs 0≤1) (Nat.le_add_left 1 _));have h2:=fC_ (boL (leadP p) ((trimQ p).take ((trimQ p).length- 1)) 0) 1;have h3:=kg_;unfold aN_;omega
structure CN (p:List Rat)(c:Cnt):Prop where
 np:nz p
 pl:p.length≤7
 pb:bdL p 20
 hc:cn_ 9 p=some c
 ok:okCnt c
 cl:c.ch.length≤8
 all:∀q∈c.ch,nz q∧q.length≤7∧bdL q 20000000
 sn:nz c.p
 sl:c.p.length≤7
 sb:bdL c.p 140168
 sz:gsz 9 p (at_ p) 20000
 gb:∀g,gcdM 9 p (at_ p)=some g→bdL g 20000∧g.length≤1000
theorem CN.ex{p:List Rat}(np:nz p)(hl:p.length≤7)(hb:bdL p 20):∃c,CN p c:=by
 have htl:=aB_ p;obtain⟨c,h1,h2,h3,h4,h5,h6,h7⟩:=nc_ np (by omega) (by omega) hb;have hH:Ht p 161:=(Ht.of (s:=20) (p:=trimQ p) fun q hq=>hb q (be_ hq)).untrim.mono (by omega);have hdl:=fQ_ np;have hdt:trimQ (at_ p)=at_ p:=aO_ _;have hd0:=eS_ (by omega) hb (by decide) hH;have hd:bdL (at_ p) 165∧Ht (at_ p) 165:=⟨fun x hx=>Nat.le_trans (hd0.1 x hx) (by decide),hd0.2⟩;have hg:=hG_all;simp only[List.all_eq_true,List.mem_range] at hg;have hG:=hg (trimQ p).length (by omega) (at_ p).length hdl;have hb':bdL p 161:=fun x hx=>Nat.le_trans (hb x hx) (by decide);refine⟨c,np,hl,hb,h1,h2,h3,h4,h5,h6,h7,sC_ 9 _ _ 161 165 20000 p (at_ p) hG rfl (by grind) hb' hd.1 hH hd.2 (by decide) (by decide) (by decide),fun g hgm=>?_⟩;obtain⟨g',g1,g2,g3,g4⟩:=ld_ 9 _ _ 161 165 20000 p (at_ p) hG rfl (by grind) hb' hd.1 hH hd.2 (by decide) (by decide) (by omega) (by omega) (by decide);grind
theorem CN.upto{p:List Rat}{c:Cnt}(h:CN p c){x:Rat}(hx:qs x≤1000000):okUp c x:=⟨h.ok,fun q hq=>by
 obtain⟨_,a,b⟩:=h.all q hq;have:=bN_ b (by decide);have h2:=Nat.mul_le_mul a (show mxL q+qs x+1≤21000001 by omega);exact⟨by omega,by omega⟩⟩
theorem CN.below{p:List Rat}{c:Cnt}(h:CN p c){x:Rat}(hx:qs x≤1000000):okBe c x:=⟨h.upto hx,by
 have:=bN_ h.sb (by decide);have h2:=Nat.mul_le_mul h.sl (show mxL c.p+qs x+1≤21000001 by omega);have h3:=h.sl;exact⟨by omega,by omega⟩⟩
theorem CN.root{p:List Rat}{c:Cnt}(h:CN p c)(a:Rat):evalP c.p a=0↔evalP p a=0:=rd_ (dh_ h.hc h.np).2.1 h.np a
def lag(v:List Rat):Nat→Rat
 |0=>0
 |m+1=>coP v m
theorem coP_line(v:List Rat)(c:Rat)(n:Nat):coP (mulP v [c,1]) n=coP v n* c+lag v n:=by
 have e:trimQ (mulP v [c,1])=trimQ (mulP [c,1] v):=dm_ fun x=>by rw[ak_,ak_];grind
 rw[trim_iff.1 e n,gG_];show coP (addL (eL_ v c) (0::addL (eL_ v 1) (0::[]))) n=_;rw[c8_,cD_];cases n with
 |zero=>rw[ce_];rfl
 |succ m=>
  rw[bI_,c8_,cD_];have:coP [(0:Rat)] m=0:=by cases m <;> rfl
  rw[this];show _+(coP v m* 1+0)=_+coP v m;grind
theorem dW_(p:List Rat):(aF_ p).length≤p.length+1:=by
 have:=aB_ (tabP (p.length+1) fun i=>if i=0 then 0 else coP p (i- 1) / ((i:Nat):Int));simp at this;unfold aF_;omega
theorem kN_(p q:List Rat):(subP p q).length≤max p.length q.length:=by
 have h1:=hn_ p (av_ q (-1));have h2:=bM_ q (-1);unfold subP;omega
theorem eF_{l:List Rat}{a b:Nat}(h:bdL l a)(hab:a≤b):bdL l b:=fun q hq=>Nat.le_trans (h q hq) hab
theorem bd_co'{p:List Rat}{s:Nat}(h:bdL p s)(hs:1≤s):∀i,qs (coP p i)≤s:=fun i=>bj_ h hs i
theorem kK_{p:List Rat}{k:Rat}{s:Nat}(h:bdL p s)(hs:1≤s):bdL (av_ p k) (s+qs k):=dM_ fun i=>by
 rw[a5_];have:=bJ_ (coP p i) k;have:=bd_co' h hs i;omega
theorem tU_{p:List Rat}{s:Nat}(h:bdL p s)(hs:1≤s):bdL (av_ p (-1)) s:=dM_ fun i=>by
 rw[a5_,show coP p i* (-1)= -coP p i by grind,dG_];exact bd_co' h hs i
theorem p5_{p q:List Rat}{s t:Nat}(hp:bdL p s)(hq:bdL q t)(hs:1≤s)(ht:1≤t):bdL (addP p q) (s+t+1):=dM_ fun i=>by
 rw[dy_];have:=fC_ (coP p i) (coP q i);have:=bd_co' hp hs i;have:=bd_co' hq ht i;omega
theorem lM_{p q:List Rat}{s t:Nat}(hp:bdL p s)(hq:bdL q t)(hs:1≤s)(ht:1≤t):bdL (subP p q) (s+t+1):=p5_ hp (tU_ hq ht) hs ht
theorem hk_{p:List Rat}{s:Nat}(h:bdL p s):bdL (trimQ p) s:=fun q hq=>h q (be_ hq)
def shP(i:Nat)(v:List Rat):List Rat:=List.replicate i 0++v
theorem dr_(i:Nat)(v:List Rat):(shP i v).length=i+v.length:=by simp[shP]
theorem oH_(i:Nat)(v:List Rat):shP (i+1) v=0::shP i v:=by simp[shP,List.replicate_succ]
theorem hb_(v:List Rat)(x:Rat):∀i,evalP (shP i v) x=evalP v x* x^ i
 |0=>by simp[shP]
 |i+1=>by
  rw[oH_,ay_,hb_ v x i,Rat.pow_succ];grind
theorem h9_(v:List Rat)(i n:Nat):coP (shP i v) n=if n< i then 0 else coP v (n- i):=by
 induction i generalizing n with
 |zero=>simp[shP]
 |succ i ih=>
  rw[oH_];cases n with
  |zero=>rw[ce_,if_pos (by omega)]
  |succ n=>
   rw[bI_,ih,Nat.add_sub_add_right];by_cases h:n< i;rw[if_pos h,if_pos (by omega)];rw[if_neg h,if_neg (by omega)]
def mR(p q:List Rat):Nat→List Rat
 |0=>[]
 |n+1=>addP (mR p q n) (shP n (av_ p (coP q n)))
theorem pC_(p q:List Rat)(x:Rat):∀n,n≤q.length→evalP (mR p q n) x=evalP p x* evalP (q.take n) x
 |0,_=>by simp[mR,ax_]
 |n+1,h=>by
  rw[mR,a1_,pC_ p q x n (by omega),hb_,as_,cU_ q x n (by omega)];grind
theorem trim_mR(p q:List Rat):∀n,trimQ (mR p q n)=mR p q n
 |0=>rfl
 |n+1=>aO_ _
theorem qZ_(p q:List Rat):trimQ (mulP p q)=mulP p q:=by
 unfold mulP;split;rfl;exact aO_ _
theorem kk_(p q:List Rat):mR p q q.length=mulP p q:=by
 rw[←trim_mR,←qZ_];refine dm_ fun x=>?_;rw[pC_ p q x _ (Nat.le_refl _),List.take_length,ak_]
theorem pa_(p q:List Rat):∀n,(mR p q n).length≤n+p.length
 |0=>Nat.zero_le _
 |n+1=>by
  have h1:=pa_ p q n;have h2:=hn_ (mR p q n) (shP n (av_ p (coP q n)));have h3:=bM_ p (coP q n);rw[dr_] at h2;rw[mR];omega
theorem mR_bd{p q:List Rat}{s t:Nat}(hp:bdL p s)(hq:bdL q t)(hs:1≤s)(ht:1≤t):∀n,bdL (mR p q n) (n* (s+t+1)+1)
 |0=>fun _ h=>by cases h
 |n+1=>dM_ fun i=>by
  rw[mR,dy_,h9_,Nat.succ_mul];have h1:=bd_co' (mR_bd hp hq hs ht n) (by omega) i;have h2:=bd_co' hq ht n
  have h3:qs (if i< n then 0 else coP (av_ p (coP q n)) (i- n))≤s+t:=by
   split;have:qs 0=1:=by decide
   omega;rw[a5_];have:=bJ_ (coP p (i- n)) (coP q n);have:=bd_co' hp hs (i- n);omega
  have:=fC_ (coP (mR p q n) i) (if i< n then 0 else coP (av_ p (coP q n)) (i- n));omega
theorem k7_{p:List Rat}{a:Rat}{d:Nat}:∀n,n≤d→mR p (shP d [a]) n=[]
 |0,_=>rfl
 |n+1,h=>by
  rw[mR,k7_ n (by omega)];refine trim_nil_iff.2 fun i=>?_;have h1:coP (shP d [a]) n=0:=by rw[h9_,if_pos (by omega)]
  have h2:coP (tabP (max ([]:List Rat).length (shP n (av_ p (coP (shP d [a]) n))).length) fun i=>coP [] i+coP (shP n (av_ p (coP (shP d [a]) n))) i) i=coP [] i+coP (shP n (av_ p (coP (shP d [a]) n))) i:=by
   rw[←bg_];exact dy_ _ _ i
  rw[h2,hL_,h9_,a5_,h1];split <;> grind
theorem f8_{p:List Rat}{a:Rat}{d s:Nat}(hp:bdL p s)(hs:1≤s)(n:Nat)(hn:n≤d+1):bdL (mR p (shP d [a]) n) (s+qs a+2):=by
 by_cases h:n≤d;rw[k7_ n h];exact fun _ h=>by cases h
 have:n=d+1:=by omega
 subst this;refine dM_ fun i=>?_;rw[mR,dy_,k7_ d (Nat.le_refl _),hL_,Rat.zero_add,h9_];split;have:qs 0=1:=by decide
 omega;rw[a5_,h9_,if_neg (by omega),Nat.sub_self,ce_];have:=bJ_ (coP p (i- d)) a;have:=bd_co' hp hs (i- d);omega
theorem coP_mono(d:List Rat)(a:Rat)(k j:Nat):coP (mulP d (shP k [a])) j=if j< k then 0 else coP d (j- k) * a:=by
 have e:mR d (shP k [a]) (shP k [a]).length=mulP d (shP k [a]):=kk_ _ _;rw[←e,show(shP k [a]).length=k+1 by rw[dr_];rfl,mR,dy_,k7_ k (Nat.le_refl _),hL_,Rat.zero_add,h9_,a5_,h9_,if_neg (Nat.lt_irrefl k),Nat.sub_self,ce_]
theorem pd_{v:List Rat}{n:Nat}(h:trimQ v=v)(hn:v.length=n+1):coP v n=leadP v:=by
 have:=bD_ (l:=v) (n:=n) (by rw[h];exact hn);rw[h,a9_ (by omega)] at this;exact Option.some.inj this
theorem step_len{v d:List Rat}(hv:trimQ v=v)(hd:trimQ d=d)(hd0:d≠[])(hl:d.length≤v.length):(subP v (mulP d (shP (v.length- d.length) [leadP v/ leadP d]))).length< v.length:=by
 have hdl:=List.length_pos_iff.2 hd0;obtain⟨m,hm⟩:∃m,d.length=m+1:=⟨d.length- 1,by omega⟩;obtain⟨n,hn⟩:∃n,v.length=n+1:=⟨v.length- 1,by omega⟩;have hld:leadP d≠0:=bw_ (by rw[hd];exact hd0)
 have key:∀j,n≤j→coP (subP v (mulP d (shP (v.length- d.length) [leadP v/ leadP d]))) j=0:=fun j hj=>by
  rw[gF_,coP_mono,if_neg (by omega)];by_cases h:j=n;subst h;rw[pd_ hv hn,show j- (v.length- d.length)=m by omega,pd_ hd hm];grind;rw[co_ (p:=v) (by omega),co_ (p:=d) (by omega)];grind
 have h1:=hS_ key;have h2:trimQ (subP v (mulP d (shP (v.length- d.length) [leadP v/ leadP d])))=subP v (mulP d (shP (v.length- d.length) [leadP v/ leadP d])):=aO_ _;rw[h2] at h1;omega
theorem qY_(p q:List Rat):trimQ (subP p q)=subP p q:=aO_ _
theorem q8_{v d:List Rat}{b t:Nat}(hv:bdL v b)(hd:bdL d t)(hb:1≤b)(ht:1≤t)(hd0:d≠[])(k:Nat):qs (leadP v/ leadP d)≤b+t∧bdL (mulP d (shP k [leadP v/ leadP d])) (2* t+b+2)∧bdL (subP v (mulP d (shP k [leadP v/ leadP d]))) (2* b+2* t+3):=by
 have h1:=gB_ hv hb;have h2:=gB_ hd ht;have h3:=cX_ (leadP v) (leadP d)
 have h4:bdL (mulP d (shP k [leadP v/ leadP d])) (2* t+b+2):=by
  have:=f8_ (a:=leadP v/ leadP d) (d:=k) hd ht (k+1) (Nat.le_refl _);rw[show k+1=(shP k [leadP v/ leadP d]).length by rw[dr_];rfl,kk_] at this;exact eF_ this (by omega)
 exact⟨by omega,h4,eF_ (lM_ hv h4 hb (by omega)) (by omega)⟩
theorem tT_{v:List Rat}{b:Nat}(h:bdL v b)(hb:1≤b)(k:Nat):bdL (shP k v) b:=fun q hq=>by
 rcases List.mem_append.1 hq with h'|h'
 rw[List.eq_of_mem_replicate h'];have:qs 0=1:=by decide
 omega;exact h q h'
theorem ep_(p q:List Rat):trimQ (divP p q).1=(divP p q).1∧trimQ (divP p q).2=(divP p q).2:=⟨aO_ _,aO_ _⟩
theorem div_uniq{p q u v:List Rat}(hq:nz q)(h:∀x,evalP p x=evalP u x* evalP q x+evalP v x)(hv:(trimQ v).length< (trimQ q).length):trimQ u=(divP p q).1∧trimQ v=(divP p q).2:=by
 have hqp:=List.length_pos_iff.2 hq
 have hd:nz v→dg v< dg q:=fun hz=>by
  have:=List.length_pos_iff.2 hz;unfold dg;omega
 have e:=dl_ hq h hd;obtain⟨h1,_⟩:=bY_ p hq;obtain⟨t1,t2⟩:=ep_ p q;refine⟨?_,by rw[←eqv_trim.1 e];exact t2⟩;rw[←t1]
 have hz:¬nz (subP u (divP p q).1):=fun hn=>by
  have hx:=dg_mul' hn hq (r:=[]) (fun x=>by
   have:=h x;have:=h1 x;have:=e x;rw[bf_,ax_];grind)
  exact absurd rfl hx.1
 refine dm_ fun x=>?_;have:=dJ_ hz x;rw[bf_] at this;grind
def powP(p:List Rat):Nat→List Rat
 |0=>c3_ 1
 |n+1=>mulP (powP p n) p
def pB(L:Nat):Nat→Nat
 |0=>1
 |n+1=>(n* L+1) * (pB L n+257)+1
theorem nQ_(p q:List Rat):(mulP p q).length≤p.length+q.length:=by
 have h:=pa_ p q q.length;rw[kk_] at h;omega
theorem gP_(p:List Rat):∀n,(powP p n).length≤n* p.length+1
 |0=>by
  have h:=aB_ [1];have e:([1]:List Rat).length=1:=rfl;show(trimQ [1]).length≤_;omega
 |n+1=>by
  have h1:=gP_ p n;have h2:=nQ_ (powP p n) p;rw[powP,Nat.succ_mul];omega
theorem pB_pos(L:Nat):∀n,1≤pB L n
 |0=>Nat.le_refl _
 |n+1=>Nat.le_add_left _ _
theorem rZ_{p:List Rat}(h:bdL p 256):∀n,bdL (powP p n) (pB p.length n)
 |0=>fun q hq=>by
  have:=be_ (l:=[1]) hq;rw[List.mem_singleton.1 this];show qs 1≤1;decide
 |n+1=>fun q hq=>by
  have h1:=gz_ (rZ_ h n) h (pB_pos _ _) (by decide) q hq;have h2:=Nat.mul_le_mul_right (pB p.length n+256+1) (gP_ p n);show qs q≤(n* p.length+1) * (pB p.length n+257)+1;obtain⟨a,ha⟩:∃a,a=(powP p n).length* (pB p.length n+256+1):=⟨_,rfl⟩;obtain⟨b,hb⟩:∃b,b=(n* p.length+1) * (pB p.length n+256+1):=⟨_,rfl⟩;rw[←ha] at h1 h2;rw[←hb] at h2;rw[show pB p.length n+257=pB p.length n+256+1 from rfl,←hb];omega
def ofQ(p m:List Rat):Nat→Rat
 |0=>0
 |n+1=>ofQ p m n+coP p n* coP m n
theorem ms_{p m:List Rat}{s t:Nat}(hp:bdL p s)(hm:bdL m t)(hs:1≤s)(ht:1≤t):∀n,qs (ofQ p m n)≤n* (s+t+1)+1
 |0=>by rw[Nat.zero_mul];exact(by decide:qs 0≤0+1)
 |n+1=>by
  have h1:=ms_ hp hm hs ht n;have h2:=fC_ (ofQ p m n) (coP p n* coP m n);have h3:=bJ_ (coP p n) (coP m n);have h4:=bj_ hp hs n;have h5:=bj_ hm ht n;rw[ofQ,Nat.succ_mul];omega
def gK(f:List Rat):Nat→List Rat
 |0=>f
 |k+1=>mulP (gK f k) [0,1]
def moQ(f:List Rat)(s:Sp)(k:Nat):Rat:=evalP (aF_ (gK f k)) s.2- evalP (aF_ (gK f k)) s.1
def okMo(f:List Rat)(s:Sp)(k:Nat):Prop:=smL (gK f k)∧(gK f k).length≤1000000∧ed_ (aF_ (gK f k)) s.1∧ed_ (aF_ (gK f k)) s.2∧okMul (gK f k) [0,1]
def sqL(sq:Nat→Rat)(n:Nat):List Rat:=(List.range n).map sq
theorem e5_(sq:Nat→Rat)(n:Nat):sqL sq (n+1)=sqL sq n++[sq n]:=by simp[sqL,List.range_succ]
@[simp] theorem d1_ (sq:Nat→Rat)(n:Nat):(sqL sq n).length=n:=by simp[sqL]
theorem iC_(p:List Rat)(h:trimQ p≠[]):∀n,trimQ (List.replicate n (0:Rat)++p)=List.replicate n 0++trimQ p
 |0=>rfl
 |n+1=>by
  rw[List.replicate_succ,List.cons_append,b7_,iC_ p h n,if_neg (by simp[h]),List.cons_append]
theorem hT_(p:List Rat)(h:trimQ p=[]):∀n,trimQ (List.replicate n (0:Rat)++p)=[]
 |0=>h
 |n+1=>by
  rw[List.replicate_succ,List.cons_append,b7_,hT_ p h n];rfl
theorem iB_(p:List Rat)(n:Nat)(N:Nat)(h:n+(trimQ p).length≤N):(trimQ (List.replicate n (0:Rat)++p)).length≤N:=by
 by_cases e:trimQ p=[];rw[hT_ p e];exact Nat.zero_le _;rw[iC_ p e];grind
def tmQ(p m:List Rat)(k:Nat):Rat:=ofQ (trimQ (List.replicate k 0++p)) m (trimQ (List.replicate k (0:Rat)++p)).length
theorem jL_{p:List Rat}{s:Nat}(h:bdL p s)(hs:1≤s)(n:Nat):bdL (List.replicate n 0++p) s:=fun q hq=>by
 rcases List.mem_append.1 hq with hq|hq
 rw[List.eq_of_mem_replicate hq];have:qs 0=1:=by decide
 omega;exact h q hq
def ofP(m p:List Rat):Rat:=ofQ (trimQ p) m (trimQ p).length
def okOf(m p:List Rat):Prop:=p.length≤1000000∧(trimQ p).length≤m.length∧(p.length+2) * (mxL p+mxL m+1)≤137438953472
instance (m p:List Rat):Decidable (okOf m p):=inferInstanceAs (Decidable (_∧_∧_))
def ldN(m p:List Rat):Rat:=ofP m (mulP p p)
def ldA(m p:List Rat):Rat:=ofP m (mulP (mulP p p) [0,1]) / ldN m p
def ldr(m:List Rat):Nat→List Rat×List Rat×Rat
 |0=>([1],[],0)
 |k+1=>(subP (mulP (ldr m k).1 [-ldA m (ldr m k).1,1]) (av_ (ldr m k).2.1 (if k=0 then 0 else ldN m (ldr m k).1/ (ldr m k).2.2)),(ldr m k).1,ldN m (ldr m k).1)
def ldB(m:List Rat)(k:Nat):Rat:=if k=0 then 0 else ldN m (ldr m k).1/ (ldr m k).2.2
def ldAk(m:List Rat)(k:Nat):Rat:=ldA m (ldr m k).1
def okLd(m:List Rat)(k:Nat):Prop:=
 okMul (ldr m k).1 (ldr m k).1∧okOf m (mulP (ldr m k).1 (ldr m k).1)∧0< ldN m (ldr m k).1∧okMul (mulP (ldr m k).1 (ldr m k).1) [0,1]∧okOf m (mulP (mulP (ldr m k).1 (ldr m k).1) [0,1])∧
 qs (ofP m (mulP (mulP (ldr m k).1 (ldr m k).1) [0,1]))+qs (ldN m (ldr m k).1)≤549755813888∧qs (ldN m (ldr m k).1)+qs (ldr m k).2.2≤549755813888∧
 okMul (ldr m k).1 [-ldAk m k,1]∧(∀q∈(ldr m k).2.1,sm q)∧sm (ldB m k)∧(∀q∈mulP (ldr m k).1 [-ldAk m k,1],sm q)∧(∀q∈av_ (ldr m k).2.1 (ldB m k),sm q)∧
 (ldr m k).2.1.length≤1099511627776∧(mulP (ldr m k).1 [-ldAk m k,1]).length≤1099511627776∧(av_ (ldr m k).2.1 (ldB m k)).length≤1099511627776
instance (m:List Rat) (k:Nat):Decidable (okLd m k):=by unfold okLd;infer_instance
def okBs(g nx a c:List Rat):Prop:=okDiv g nx∧okMul (divP g nx).1 c∧(∀q∈a,sm q)∧(∀q∈mulP (divP g nx).1 c,sm q)∧a.length≤1099511627776∧(mulP (divP g nx).1 c).length≤1099511627776
instance (g nx a c:List Rat):Decidable (okBs g nx a c):=by unfold okBs;infer_instance
def bzL:Nat→List Rat→List Rat→List Rat→List Rat→Option (List Rat×List Rat)
 |0,_,_,_,_=>none
 |f+1,g,nx,a,c=>if trimQ nx=[] then some (g,a) else if okBs g nx a c∧nx.length≤1099511627776 then bzL f nx (divP g nx).2 c (subP a (mulP (divP g nx).1 c)) else none
def bzG(g:List Rat):List Rat:=av_ g (((1:Int):Rat) / leadP g)
def bzA(q g a:List Rat):List Rat:=(divP (av_ a (((1:Int):Rat) / leadP g)) (divP q (bzG g)).1).2
def bzB(p q g a:List Rat):List Rat:=(divP (subP (bzG g) (mulP (bzA q g a) p)) q).1
def okBz(p q g a:List Rat):Prop:=
 trimQ g≠[]∧g.length≤1099511627776∧a.length≤1099511627776∧(∀x∈g,sm x)∧(∀x∈a,sm x)∧qs (leadP g)≤68719476736∧okDiv q (bzG g)∧trimQ (bzG g)≠[]∧
 okDiv (av_ a (((1:Int):Rat) / leadP g)) (divP q (bzG g)).1∧trimQ (divP q (bzG g)).1≠[]∧okMul (bzA q g a) p∧(∀x∈bzG g,sm x)∧(∀x∈mulP (bzA q g a) p,sm x)∧
 (bzG g).length≤1099511627776∧(mulP (bzA q g a) p).length≤1099511627776∧okDiv (subP (bzG g) (mulP (bzA q g a) p)) q
instance (p q g a:List Rat):Decidable (okBz p q g a):=by unfold okBz;infer_instance
def tpV(p m:List Rat)(i:Nat):Nat→Rat
 |0=>0
 |j+1=>if i< j then tpV p m i j+coP p j* coP m (j- 1- i) else tpV p m i j
def tpI(p m:List Rat)(j i0 i:Nat):Rat:=if i< i0 then tpV p m i (j+1) else tpV p m i j
theorem tpI_0(p m:List Rat)(j:Nat):tpI p m j 0=fun i=>tpV p m i j:=rfl
theorem tpI_e(p m:List Rat)(j:Nat):tpI p m j j=fun i=>tpV p m i (j+1):=by
 funext i;unfold tpI;by_cases h:i< j;rw[if_pos h];rw[if_neg h,tpV,if_neg h]
theorem kM_{d i:Nat}(f:Nat→Rat)(h:i< d):(tabP d f)[i]?=some (f i):=by simp[tabP,h]
theorem tabP_set(d i:Nat)(f g:Nat→Rat)(h:i< d)(hg:∀x,x≠i→f x=g x):(tabP d f).set i (g i)=tabP d g:=by
 refine List.ext_getElem? fun x=>?_;rw[List.getElem?_set];by_cases e:i=x;subst e;simp[tabP,h];rw[if_neg e];by_cases hx:x< d;rw[kM_ f hx,kM_ g hx,hg x (fun e2=>e e2.symm)];simp_all
theorem tpI_set(p m:List Rat)(d j i:Nat)(hi:i< j)(hj:j≤d):(tabP d (tpI p m j i)).set i (tpV p m i j+coP p j* coP m (j- 1- i))=tabP d (tpI p m j (i+1)):=by
 have e:tpV p m i j+coP p j* coP m (j- 1- i)=tpI p m j (i+1) i:=by unfold tpI;rw[if_pos (Nat.lt_succ_self i),tpV,if_pos hi]
 rw[e];refine tabP_set d i _ _ (by omega) fun x hx=>?_;unfold tpI;grind
theorem q1_{p m:List Rat}{s t:Nat}(hp:bdL p s)(hm:bdL m t)(hs:1≤s)(ht:1≤t)(i:Nat):∀j,qs (tpV p m i j)≤j* (s+t+1)+1
 |0=>by rw[Nat.zero_mul];exact(by decide:qs 0≤0+1)
 |j+1=>by
  have h1:=q1_ hp hm hs ht i j;have h2:=fC_ (tpV p m i j) (coP p j* coP m (j- 1- i));have h3:=bJ_ (coP p j) (coP m (j- 1- i));have h4:=bj_ hp hs j;have h5:=bj_ hm ht (j- 1- i);rw[tpV];grind
def tpQ(p m:List Rat):List Rat:=tabP (p.length- 1) fun i=>tpV p m i p.length
theorem q5_(d:Nat)(p m:List Rat):tabP d (fun i=>tpV p m i 0)=List.replicate d 0:=by
 show(List.range d).map (fun _=>(0:Rat))=_;rw[List.map_const',List.length_range]
def apR(p w f:List Rat):List Rat:=(divP (mulP w (divP f p).2) p).2
def nwA(T:List Rat)(n:Nat)(out:List Rat)(k:Nat):Nat→Rat
 |0=>coP T (n- k) * ((k:Int):Rat)
 |i+1=>nwA T n out k i+coP T (n- (i+1)) * coP out (k- (i+1))
def suL(T:List Rat)(n:Nat):Nat→List Rat
 |0=>[((n:Int):Rat)]
 |k+1=>suL T n k++[-(nwA T n (suL T n k) (k+1) k)]
theorem dq_(T:List Rat)(n:Nat):∀k,(suL T n k).length=k+1
 |0=>rfl
 |k+1=>by rw[suL,List.length_append,dq_ T n k];rfl
def okSu(T:List Rat)(n k:Nat):Prop:=qs (coP T (n- (k+1)))+qs (((k+1:Nat):Int):Rat)≤549755813888∧
 ∀i,i< k→qs (coP T (n- (i+1)))+qs (coP (suL T n k) (k+1- (i+1)))≤549755813888∧qs (nwA T n (suL T n k) (k+1) i)+qs (coP T (n- (i+1)) * coP (suL T n k) (k+1- (i+1)))≤549755813888
def enM(e:Rat):List Rat:=[-e,((1:Int):Rat)]
def krS(e m:List Rat)(k:Nat):Nat→Rat
 |0=>0
 |j+1=>krS e m k j+coP e j* coP m (j+k)
def krE(m:List Rat)(n:Nat):Nat→List Rat
 |0=>List.replicate (n+1) 0++[((1:Int):Rat)]
 |k+1=>(krE m n k).set (n- k) (-(krS (krE m n k) m k (n+2) / coP m n))
theorem gb_(m:List Rat)(n:Nat):∀k,(krE m n k).length=n+2
 |0=>by simp[krE]
 |k+1=>by rw[krE,List.length_set,gb_ m n k]
def okKr(m:List Rat)(n k:Nat):Prop:=(∀j,j< n+2→qs (coP (krE m n k) j)+qs (coP m (j+k))≤549755813888∧qs (krS (krE m n k) m k j)+qs (coP (krE m n k) j* coP m (j+k))≤549755813888)∧
 qs (krS (krE m n k) m k (n+2))+qs (coP m n)≤549755813888
end Go.Abs
