/- Part R10 of the proof. -/
import Derived.Test.YtdjfjpeoddmamaaGreatDoorR09
set_option linter.all false
namespace Go.Abs
def hG:Nat→Nat→Nat→Nat→Nat→Nat→Bool
 |0,_,_,_,_,_=>false
 |f+1,m,n,s,t,X=>if n=0 then decide (s≤X) else
  decide (2^ (m+1- n) * (s+2* t+1)≤137438953472) && (List.range n).all fun k=>hG f n k t (s+(m+1- n) * (t+1)) X
theorem iX_:∀f m n s t X (p q:List Rat),hG f m n s t X=true→(trimQ p).length=m→(trimQ q).length=n→bdL p s→bdL q t→Ht p s→Ht q t→1≤s→1≤t→p.length≤1000→q.length≤1000→X≤137438953472→
    ∃g,gcdM f p q=some g∧g.length≤1000∧Ht g X∧bdL g X
 |0,_,_,_,_,_,_,_,h,_,_,_,_,_,_,_,_,_,_,_=>by cases h
 |f+1,m,n,s,t,X,p,q,h,hm,hn,hp,hq,kp,kq,hs,ht,hp1,hq1,hX=>by
  rw[hG] at h
  rw[gcdM]
  by_cases h0:n=0
  rw[if_pos h0] at h
  have hsX:=of_decide_eq_true h
  have e:trimQ q=[]:=List.length_eq_zero_iff.1 (by omega)
  rw[if_pos e,if_pos (cJ_ hp (by omega))]
  obtain⟨a,b⟩:=kp.monic hs
  exact⟨_,rfl,Nat.le_trans (f6_ p) hp1,b.mono hsX,fun x hx=>Nat.le_trans (a x hx) hsX⟩
  rw[if_neg h0] at h
  simp only[Bool.and_eq_true,decide_eq_true_eq,List.all_eq_true,List.mem_range] at h
  obtain⟨hL,hk⟩:=h
  have hq0:trimQ q≠[]:=fun e=>by rw[e] at hn;simp at hn;omega
  have hmp:=bi_ hp hs
  have hmq:=bi_ hq ht
  have hmono:2^ (m+1- n) * (mxL p+2* mxL q+1)≤2^ (m+1- n) * (s+2* t+1):=Nat.mul_le_mul_left _ (by omega)
  rw[if_neg hq0,if_pos (show okDiv p q from⟨by rw[hm,hn];omega,by omega,by omega⟩)]
  have hd:=(hH_ kp kq hq0).2
  rw[hm,hn] at hd
  obtain⟨b1,b2⟩:=hd.monic (by omega)
  have hlen:=(eO_ (p:=p) (q:=q)).2
  have hml:=f6_ (divP p q).2
  have hkn:(trimQ (divP p q).2).length< n:=by rw[←hn];exact(bS_ p q hq0).2
  have hmn:(trimQ (aW_ (divP p q).2)).length=(trimQ (divP p q).2).length:=by
   by_cases hz:trimQ (divP p q).2=[]
   unfold aW_;rw[if_pos hz,hz];rfl
   unfold aW_;rw[if_neg hz]
   exact ei_ fun e=>by have:=Rat.div_mul_cancel (a:=1) (bt_ hz);rw[e] at this;grind
  exact iX_ f n _ t _ X q _ (hk _ hkn) hn hmn hq b1 kq b2 ht (by omega) hq1 (by omega) hX
def cB:Nat→Nat→Nat→Nat→Nat→Nat→Nat→Bool
 |0,_,_,_,_,_,_=>false
 |f+1,m,n,s,t,b,T=>if n=0 then true else
  decide (t≤T) && decide ((n+4) * b≤34359738368) && decide (2^ (m+1- n) * (s+2* t+1)≤137438953472) &&
   (List.range n).all fun k=>cB f n k t (s+(m+1- n) * (t+1)) (2^ (m+1- n) * (s+2* t+1)) T
theorem hU_:∀k f m n s t b T (last next:List Rat) (acc:List (List Rat)),cB k m n s t b T=true→(trimQ last).length=m→(trimQ next).length=n→next.length=n→bdL last s→Ht last s→Ht next t→bdL next b→1≤s→1≤t→1≤b→last.length≤1000→next.length≤1000→
    ∃out,e9_ f k last next acc=some out∧out.length≤acc.length+n∧∀q∈out,q∈acc∨(nz q∧q.length≤n∧bdL q T)
 |0,_,_,_,_,_,_,_,_,_,_,h,_,_,_,_,_,_,_,_,_,_,_,_=>by cases h
 |k+1,f,m,n,s,t,b,T,last,next,acc,h,hm,hn,hnl,hl,kl,kn,hnb,hs,ht,hb,hl1,hn1=>by
  rw[cB] at h
  rw[e9_]
  by_cases h0:n=0
  ·have e:trimQ next=[]:=List.length_eq_zero_iff.1 (by omega)
   rw[if_pos e]
   exact⟨acc,rfl,by omega,fun q hq=> .inl hq⟩
  rw[if_neg h0] at h
  simp only[Bool.and_eq_true,decide_eq_true_eq,List.all_eq_true,List.mem_range] at h
  obtain⟨⟨⟨hT,hP⟩,hL⟩,hk⟩:=h
  have hq0:trimQ next≠[]:=fun e=>by rw[e] at hn;simp at hn;omega
  obtain⟨p1,p2⟩:=kn.prim hq0 ht
  obtain⟨c,c0,hc⟩:=em_ hq0
  obtain⟨d1,d2,_⟩:=cG_ hq0 (show c≠0 by grind) hc
  have hpn:(trimQ (primP next)).length=n:=by
   have a1:=List.length_pos_iff.2 d1
   have a2:=List.length_pos_iff.2 hq0
   unfold dg at d2;omega
  have hmb:=bi_ hnb hb
  have hml:=bi_ hl hs
  have hmp:=bi_ p1 ht
  have hpl:(primP next).length=n:=by
   unfold primP;unfold primP at hpn
   rw[←hpn];unfold ay_;rw[aS_]
  have hmono:2^ (m+1- n) * (mxL last+2* mxL (primP next)+1)≤2^ (m+1- n) * (s+2* t+1):=Nat.mul_le_mul_left _ (by omega)
  have hmono2:(n+4) * mxL next≤(n+4) * b:=Nat.mul_le_mul_left _ hmb
  rw[if_neg hq0,if_pos (show j9_ next∧okDiv last (primP next)∧trimQ (primP next)≠[] from⟨⟨by rw[hnl];omega,by omega⟩,⟨by rw[hm,hpn];omega,by omega,by omega⟩,d1⟩)]
  have hd:=(hH_ kl p2 d1).2
  rw[hm,hpn] at hd
  have hbd:=(gd_ hl p1 hs ht d1 (by rw[hm,hpn];exact Nat.le_refl _)).2
  have hL1:1≤2^ (m+1- n) * (s+2* t+1):=Nat.mul_pos (Nat.two_pow_pos _) (by omega)
  have hm1:(-1:Rat)≠0:=by decide+kernel
  have hkn:(trimQ (ay_ (divP last (primP next)).2 (-1))).length< n:=by rw[ei_ hm1,←hpn];exact(bS_ last _ d1).2
  have hsl:(ay_ (divP last (primP next)).2 (-1)).length=(trimQ (ay_ (divP last (primP next)).2 (-1))).length:=by unfold ay_;rw[aS_]
  obtain⟨out,o1,o2,o3⟩:=hU_ k f n _ t _ _ T (primP next) (ay_ (divP last (primP next)).2 (-1)) (acc++[primP next]) (hk _ hkn) hpn rfl hsl p1 p2 (hd.scale hm1 fun i=>bc_ _ _ i)
   (ee_ fun i=>by
    rw[bc_,show coP (divP last (primP next)).2 i* -1= -coP (divP last (primP next)).2 i by grind,d9_]
    exact bz_ hbd hL1 i) ht (by omega) hL1 (by omega) (by omega)
  refine⟨out,o1,?_,fun q hq=>?_⟩
  rw[List.length_append,List.length_singleton] at o2;omega
  rcases o3 q hq with h|⟨a,b',c'⟩
  rcases List.mem_append.1 h with h|h
  exact .inl h
  rw[List.mem_singleton.1 h]
  exact .inr ⟨d1,by omega,fun x hx=>Nat.le_trans (p1 x hx) hT⟩
  exact .inr ⟨a,by omega,c'⟩
theorem hG_all:((List.range 8).all fun m=>(List.range m).all fun n=>hG 9 m n 161 165 20000)=true:=by decide+kernel
theorem cB_all:((List.range 8).all fun m=>(List.range m).all fun n=>cB 9 m n 140168 140172 140172 20000000)=true:=by decide+kernel
theorem ck_(p:List Rat)(k:Rat):trimQ (ay_ p k)=ay_ p k:=aS_ _
theorem dV_(p:List Rat):trimQ (aW_ p)=aW_ p:=by
 unfold aW_;split
 rfl
 exact aS_ _
theorem ev_{p:List Rat}(h:nz p):(ao_ p).length< (trimQ p).length:=by
 have h0:=List.length_pos_iff.2 h
 have e:ao_ p=ao_ (trimQ p):=by
  have h1:trimQ (ao_ p)=ao_ p:=aS_ _
  have h2:trimQ (ao_ (trimQ p))=ao_ (trimQ p):=aS_ _
  rw[←h1,←h2]
  exact dW_ fun i=>by rw[bl_,bl_,bf_]
 have:=dk_ (trimQ p)
 rw[e];omega
theorem dP_{p:List Rat}{s g:Nat}(hl:(trimQ p).length≤7)(hb:bdL p s)(hs:1≤s)(hH:Ht p g):bdL (ao_ p) (s+4)∧Ht (ao_ p) (g+4):=by
 have e:∀i,coP (ao_ p) i=coP (ao_ (trimQ p)) i:=fun i=>by rw[bl_,bl_,bf_]
 constructor
 refine ee_ fun i=>?_
 rw[bl_]
 by_cases hi:i+1< (trimQ p).length
 have h1:=cd_ (coP p (i+1)) (nQ (i+1))
 have h2:=qs_nQ (n:=i+1) (k:=3) (bl_le (by omega)) (by decide)
 have h3:=bz_ hb hs (i+1)
 exact Nat.le_trans h1 (by omega)
 rw[←bf_,b9_ (show(trimQ p).length≤i+1 by omega),Rat.zero_mul]
 exact Nat.le_trans (by decide:qs 0≤1) (by omega)
 refine((hH.trim).derive.scale (c:=1) (r:=ao_ p) (by decide+kernel) fun i=>by rw[e];grind).mono ?_
 have:bl (trimQ p).length≤3:=bl_le (by omega)
 omega
theorem nT_{p:List Rat}(np:nz p)(hl:(trimQ p).length≤7)(hp:p.length≤1000)(hb:bdL p 20):∃s,sqfM 9 p=some s∧nz s∧s.length≤7∧Ht s 140168∧bdL s 140168:=by
 have hH:Ht p 161:=(Ht.of (s:=20) (p:=trimQ p) fun q hq=>hb q (a9_ hq)).untrim.mono (by omega)
 have hlp:=List.length_pos_iff.2 np
 have hdl:=ev_ np
 have hdt:trimQ (ao_ p)=ao_ p:=aS_ _
 have hd0:=dP_ hl hb (by decide) hH
 have hd:bdL (ao_ p) 165∧Ht (ao_ p) 165:=⟨fun x hx=>Nat.le_trans (hd0.1 x hx) (by decide),hd0.2⟩
 have hg:=hG_all
 simp only[List.all_eq_true,List.mem_range] at hg
 obtain⟨g,g1,g2,g3,g4⟩:=iX_ 9 _ _ 161 165 20000 p (ao_ p) (hg _ (by omega) _ (by rw[hdt];exact hdl)) rfl rfl (fun x hx=>Nat.le_trans (hb x hx) (by decide)) hd.1 hH hd.2 (by decide) (by decide) hp (by omega) (by decide)
 obtain⟨z0,z1,z2,a,b,z3⟩:=fI_ 9 _ _ _ g1 (.inl np)
 obtain⟨u,hu⟩:=z1
 obtain⟨m1,m2⟩:=cf_ p z0
 have hm:=dB_ (u:=u) (v:=[]) z0 (fun x=>by rw[hu x,az_];exact(Rat.add_zero _).symm) (fun e=>absurd rfl e)
 have hs:∀x,evalP p x=evalP (divP p g).1 x* evalP g x:=fun x=>by
  have:=m1 x
  rw[hm x,az_] at this
  rw[this];grind
 obtain⟨n1,n2⟩:=dG_ hs np
 have e1:=(dg_mul' n1 n2 hs).2.1
 have e2:=(ce_ n1).2.2
 have e3:=(ce_ n1).2.1
 have hlg:=List.length_pos_iff.2 z0
 have hls:=List.length_pos_iff.2 e3
 have h1:=bi_ hb (by decide)
 have h2:=bi_ g4 (by decide)
 have hpow:2^ ((trimQ p).length+1- (trimQ g).length)≤2^ 7:=Nat.pow_le_pow_right (by decide) (by omega)
 have hmul:=Nat.mul_le_mul hpow (show mxL p+2* mxL g+1≤50000 by omega)
 have hq:=(hH_ hH g3 z0).1
 have hrw:((trimQ p).length+1- (trimQ g).length) * (20000+1)≤7* (20000+1):=Nat.mul_le_mul_right _ (by omega)
 obtain⟨q1,q2⟩:=(hq.mono (show _≤140168 by omega)).monic (by decide)
 refine⟨aW_ (divP p g).1,?_,e3,?_,q2,q1⟩
 unfold sqfM
 rw[if_pos ⟨cJ_ hb (by decide),by omega⟩,g1,Option.bind_some,if_pos ⟨z0,by omega,by omega,by omega⟩]
 have:=dV_ (divP p g).1
 rw[←this]
 unfold dg at e1 e2;omega
theorem kL_{p:List Rat}(np:nz p)(hl:(trimQ p).length≤7)(hp:p.length≤1000)(hb:bdL p 20):∃c,cn_ 9 p=some c∧okCnt c∧c.ch.length≤8∧(∀q∈c.ch,nz q∧q.length≤7∧bdL q 20000000)∧nz c.p∧c.p.length≤7∧bdL c.p 140168:=by
 obtain⟨s,s1,s2,s3,s4,s5⟩:=nT_ np hl hp hb
 have hst:=aD_ s
 have hsp:=List.length_pos_iff.2 s2
 obtain⟨p1,p2⟩:=s4.prim s2 (by decide)
 obtain⟨c,c0,hc⟩:=em_ s2
 obtain⟨d1,d2,_⟩:=cG_ s2 (show c≠0 by grind) hc
 have hpn:(trimQ (primP s)).length=(trimQ s).length:=by
  have a1:=List.length_pos_iff.2 d1
  unfold dg at d2;omega
 have hpl:(primP s).length=(trimQ (primP s)).length:=by unfold primP;rw[ck_]
 have hdl:=ev_ s2
 have hdt:trimQ (ao_ s)=ao_ s:=aS_ _
 have hd:=dP_ (by omega) s5 (by decide) s4
 have hC:=cB_all
 simp only[List.all_eq_true,List.mem_range] at hC
 obtain⟨out,o1,o2,o3⟩:=hU_ 9 9 _ _ 140168 140172 140172 20000000 (primP s) (ao_ s) [primP s] (hC (trimQ s).length (by omega) (ao_ s).length hdl) hpn (by rw[hdt]) rfl p1 p2 hd.2 hd.1 (by decide) (by decide) (by decide) (by omega) (by omega)
 have hmx:=bi_ s5 (by decide)
 have hmul:=Nat.mul_le_mul (show s.length+4≤11 by omega) hmx
 have hst':d6_ 9 s=some out:=by
  unfold d6_
  rw[if_pos ⟨cJ_ s5 (by decide),⟨by omega,by omega⟩,s2⟩]
  exact o1
 have hall:∀q∈out,nz q∧q.length≤7∧bdL q 20000000:=fun q hq=>by
  rcases o3 q hq with h|⟨a,b,d⟩
  rw[List.mem_singleton.1 h]
  exact⟨d1,by omega,fun x hx=>Nat.le_trans (p1 x hx) (by decide)⟩
  exact⟨a,by omega,d⟩
 rw[List.length_singleton] at o2
 have hok:okCnt ⟨s,out,chL (out.map sgI) 0 0⟩:=⟨fun q hq=>⟨(hall q hq).1,by have:=(hall q hq).2.1;omega⟩,by show out.length≤_;omega,rfl⟩
 refine⟨⟨s,out,chL (out.map sgI) 0 0⟩,?_,hok,by show out.length≤_;omega,hall,s2,s3,s5⟩
 unfold cn_
 rw[s1,Option.bind_some,hst',Option.bind_some,if_pos hok]
def gsz:Nat→List Rat→List Rat→Nat→Prop
 |0,_,_,_=>False
 |f+1,p,q,B=>bdL p B∧(nz q→bdL q B∧gsz f q (aW_ (divP p q).2) B)
theorem hG_top{f m n s t X:Nat}(h:hG f m n s t X=true)(h0:n≠0):t≤X:=by
 cases f with
 |zero=>cases h
 |succ f=>
  rw[hG,if_neg h0] at h
  simp only[Bool.and_eq_true,decide_eq_true_eq,List.all_eq_true,List.mem_range] at h
  have:=h.2 0 (by omega)
  cases f with
  |zero=>cases this
  |succ f=>
   rw[hG,if_pos rfl] at this
   exact of_decide_eq_true this
theorem oD_:∀f m n s t X (p q:List Rat),hG f m n s t X=true→(trimQ p).length=m→(trimQ q).length=n→bdL p s→bdL q t→Ht p s→Ht q t→1≤s→1≤t→s≤X→gsz f p q X
 |0,_,_,_,_,_,_,_,h,_,_,_,_,_,_,_,_,_=>by cases h
 |f+1,m,n,s,t,X,p,q,h,hm,hn,hp,hq,kp,kq,hs,ht,hX=>by
  have htop:=hG_top h
  rw[hG] at h
  refine⟨fun x hx=>Nat.le_trans (hp x hx) hX,fun hq0=>?_⟩
  have h0:n≠0:=by have:=List.length_pos_iff.2 hq0;omega
  have htX:=htop h0
  rw[if_neg h0] at h
  simp only[Bool.and_eq_true,decide_eq_true_eq,List.all_eq_true,List.mem_range] at h
  obtain⟨hL,hk⟩:=h
  have hd:=(hH_ kp kq hq0).2
  rw[hm,hn] at hd
  obtain⟨b1,b2⟩:=hd.monic (by omega)
  have hkn:(trimQ (divP p q).2).length< n:=by rw[←hn];exact(bS_ p q hq0).2
  have hmn:(trimQ (aW_ (divP p q).2)).length=(trimQ (divP p q).2).length:=by
   by_cases hz:trimQ (divP p q).2=[]
   unfold aW_;rw[if_pos hz,hz];rfl
   unfold aW_;rw[if_neg hz]
   exact ei_ fun e=>by have:=Rat.div_mul_cancel (a:=1) (bt_ hz);rw[e] at this;grind
  exact⟨fun x hx=>Nat.le_trans (hq x hx) htX,oD_ f n _ t _ X q _ (hk _ hkn) hn hmn hq b1 kq b2 ht (by omega) htX⟩
theorem nM_(p:List Rat)(k:Rat):tabP p.length (fun i=>coP p i* k)=p.map fun c=>c* k:=by
 apply List.ext_getElem?
 intro i
 unfold tabP
 rw[List.getElem?_map,List.getElem?_map]
 by_cases hi:i< p.length
 rw[List.getElem?_range hi,a0_ hi];rfl
 rw[List.getElem?_eq_none (by simp;omega),List.getElem?_eq_none (by omega)];rfl
theorem nZ_{p:List Rat}{k:Rat}(hp:trimQ p=p)(hk:k≠0):ay_ p k=p.map fun c=>c* k:=by
 unfold ay_
 rw[nM_]
 have h1:=ei_ (p:=p) hk
 unfold ay_ at h1
 rw[nM_,aS_,hp] at h1
 have h2:=jx_ (p.map fun c=>c* k)
 rw[h2,h1,List.take_of_length_le (by simp)]
theorem boL_qs{lead:Rat}{s:Nat}(hl:qs lead≤s):∀(l:List Rat) (m:Rat),bdL l s→qs m≤2* s+1→qs (boL lead l m)≤2* s+1
 |[],m,_,h=>h
 |c::l,m,hb,h=>by
  rw[boL]
  refine boL_qs hl l _ (fun q hq=>hb q (List.mem_cons_of_mem _ hq)) (on_ (fun x hx=>?_) (Nat.le_add_left 1 _))
  have h1:=hb c (List.mem_cons_self ..)
  have h2:=cI_ c lead
  rcases List.mem_cons.1 hx with rfl|hx
  exact h
  rw[List.mem_singleton.1 hx,l0_];omega
theorem bound_qs{p:List Rat}{s:Nat}(h:bdL p s)(hs:1≤s):qs (aU_ p)≤2* s+3:=by
 have h1:=boL_qs (os_ h hs) ((trimQ p).take ((trimQ p).length- 1)) 0 (fun q hq=>h q (a9_ (List.mem_of_mem_take hq))) (Nat.le_trans (by decide:qs 0≤1) (Nat.le_add_left 1 _))
 have h2:=el_ (boL (leadP p) ((trimQ p).take ((trimQ p).length- 1)) 0) 1
 have h3:=qs_one
 unfold aU_;omega
structure CN (p:List Rat)(c:Cnt):Prop where
 np:nz p
 pl:p.length≤7
 pb:bdL p 20
 hc:cn_ 9 p=some c
 ok:okCnt c
 cl:c.ch.length≤8
 all:∀q∈c.ch,nz q∧q.length≤7∧bdL q 20000000
 sn:nz c.p
 sl:c.p.length≤7
 sb:bdL c.p 140168
 sz:gsz 9 p (ao_ p) 20000
 gb:∀g,gcdM 9 p (ao_ p)=some g→bdL g 20000∧g.length≤1000
theorem CN.ex{p:List Rat}(np:nz p)(hl:p.length≤7)(hb:bdL p 20):∃c,CN p c:=by
 have htl:=aD_ p
 obtain⟨c,h1,h2,h3,h4,h5,h6,h7⟩:=kL_ np (by omega) (by omega) hb
 have hH:Ht p 161:=(Ht.of (s:=20) (p:=trimQ p) fun q hq=>hb q (a9_ hq)).untrim.mono (by omega)
 have hlp:=List.length_pos_iff.2 np
 have hdl:=ev_ np
 have hdt:trimQ (ao_ p)=ao_ p:=aS_ _
 have hd0:=dP_ (by omega) hb (by decide) hH
 have hd:bdL (ao_ p) 165∧Ht (ao_ p) 165:=⟨fun x hx=>Nat.le_trans (hd0.1 x hx) (by decide),hd0.2⟩
 have hg:=hG_all
 simp only[List.all_eq_true,List.mem_range] at hg
 have hG:=hg (trimQ p).length (by omega) (ao_ p).length hdl
 have hb':bdL p 161:=fun x hx=>Nat.le_trans (hb x hx) (by decide)
 refine⟨c,np,hl,hb,h1,h2,h3,h4,h5,h6,h7,oD_ 9 _ _ 161 165 20000 p (ao_ p) hG rfl (by rw[hdt]) hb' hd.1 hH hd.2 (by decide) (by decide) (by decide),fun g hgm=>?_⟩
 obtain⟨g',g1,g2,g3,g4⟩:=iX_ 9 _ _ 161 165 20000 p (ao_ p) hG rfl (by rw[hdt]) hb' hd.1 hH hd.2 (by decide) (by decide) (by omega) (by omega) (by decide)
 rw[g1] at hgm
 cases hgm
 exact⟨g4,g2⟩
theorem CN.upto{p:List Rat}{c:Cnt}(h:CN p c){x:Rat}(hx:qs x≤1000000):okUp c x:=⟨h.ok,fun q hq=>by
 obtain⟨_,a,b⟩:=h.all q hq
 have:=bi_ b (by decide)
 have h2:=Nat.mul_le_mul a (show mxL q+qs x+1≤21000001 by omega)
 exact⟨by omega,by omega⟩⟩
theorem CN.below{p:List Rat}{c:Cnt}(h:CN p c){x:Rat}(hx:qs x≤1000000):okBe c x:=⟨h.upto hx,by
 have:=bi_ h.sb (by decide)
 have h2:=Nat.mul_le_mul h.sl (show mxL c.p+qs x+1≤21000001 by omega)
 have h3:=h.sl
 exact⟨by omega,by omega⟩⟩
def lag(v:List Rat):Nat→Rat
 |0=>0
 |m+1=>coP v m
theorem coP_line(v:List Rat)(c:Rat)(n:Nat):coP (mulP v [c,1]) n=coP v n* c+lag v n:=by
 have e:trimQ (mulP v [c,1])=trimQ (mulP [c,1] v):=eM_ fun x=>by rw[aq_,aq_];grind
 rw[trim_iff.1 e n,fl_]
 show coP (addL (dF_ v c) (0::addL (dF_ v 1) (0::[]))) n=_
 rw[cv_,b8_]
 cases n with
 |zero=>rw[cu_];rfl
 |succ m=>
  rw[bM_,cv_,b8_]
  have:coP [(0:Rat)] m=0:=by cases m <;> rfl
  rw[this];show _+(coP v m* 1+0)=_+coP v m;grind
theorem iD_(p q:List Rat):(subP p q).length≤max p.length q.length:=by
 have h1:=f1_ p (ay_ q (-1))
 have h2:=by_ q (-1)
 unfold subP;omega
theorem bd_co'{p:List Rat}{s:Nat}(h:bdL p s)(hs:1≤s):∀i,qs (coP p i)≤s:=fun i=>bz_ h hs i
theorem e0_{p:List Rat}{k:Rat}{s:Nat}(h:bdL p s)(hs:1≤s):bdL (ay_ p k) (s+qs k):=ee_ fun i=>by
 rw[bc_]
 have:=cd_ (coP p i) k
 have:=bd_co' h hs i
 omega
theorem bdL_neg{p:List Rat}{s:Nat}(h:bdL p s)(hs:1≤s):bdL (ay_ p (-1)) s:=ee_ fun i=>by
 rw[bc_,show coP p i* (-1)= -coP p i by grind,d9_]
 exact bd_co' h hs i
theorem bdL_addP{p q:List Rat}{s t:Nat}(hp:bdL p s)(hq:bdL q t)(hs:1≤s)(ht:1≤t):bdL (addP p q) (s+t+1):=ee_ fun i=>by
 rw[dm_]
 have:=el_ (coP p i) (coP q i)
 have:=bd_co' hp hs i
 have:=bd_co' hq ht i
 omega
theorem mZ_{p q:List Rat}{s t:Nat}(hp:bdL p s)(hq:bdL q t)(hs:1≤s)(ht:1≤t):bdL (subP p q) (s+t+1):=bdL_addP hp (bdL_neg hq ht) hs ht
theorem eZ_{p:List Rat}{s:Nat}(h:bdL p s):bdL (trimQ p) s:=fun q hq=>h q (a9_ hq)
def shP(i:Nat)(v:List Rat):List Rat:=List.replicate i 0++v
theorem m7_(i:Nat)(v:List Rat):(shP i v).length=i+v.length:=by simp[shP]
theorem shP_succ(i:Nat)(v:List Rat):shP (i+1) v=0::shP i v:=by simp[shP,List.replicate_succ]
theorem mz_(v:List Rat)(x:Rat):∀i,evalP (shP i v) x=evalP v x* x^ i
 |0=>by simp[shP]
 |i+1=>by
  rw[shP_succ,ap_,mz_ v x i,Rat.pow_succ]
  grind
def mR(p q:List Rat):Nat→List Rat
 |0=>[]
 |n+1=>addP (mR p q n) (shP n (ay_ p (coP q n)))
theorem mA_(p q:List Rat)(x:Rat):∀n,n≤q.length→evalP (mR p q n) x=evalP p x* evalP (q.take n) x
 |0,_=>by simp[mR,az_]
 |n+1,h=>by
  rw[mR,a7_,mA_ p q x n (by omega),mz_,ar_,c8_ q x n (by omega)]
  grind
theorem trim_mR(p q:List Rat):∀n,trimQ (mR p q n)=mR p q n
 |0=>rfl
 |n+1=>aS_ _
theorem nH_(p q:List Rat):trimQ (mulP p q)=mulP p q:=by
 unfold mulP
 split
 rfl
 exact aS_ _
theorem mR_mul(p q:List Rat):mR p q q.length=mulP p q:=by
 rw[←trim_mR,←nH_]
 refine eM_ fun x=>?_
 rw[mA_ p q x _ (Nat.le_refl _),List.take_length,aq_]
theorem mR_len(p q:List Rat):∀n,(mR p q n).length≤n+p.length
 |0=>Nat.zero_le _
 |n+1=>by
  have h1:=mR_len p q n
  have h2:=f1_ (mR p q n) (shP n (ay_ p (coP q n)))
  have h3:=by_ p (coP q n)
  rw[m7_] at h2
  rw[mR]
  omega
theorem dX_(p q:List Rat):trimQ (divP p q).1=(divP p q).1∧trimQ (divP p q).2=(divP p q).2:=⟨aS_ _,aS_ _⟩
def powP(p:List Rat):Nat→List Rat
 |0=>bT_ 1
 |n+1=>mulP (powP p n) p
def pB(L:Nat):Nat→Nat
 |0=>1
 |n+1=>(n* L+1) * (pB L n+257)+1
theorem mulP_le(p q:List Rat):(mulP p q).length≤p.length+q.length:=by
 have h:=mR_len p q q.length
 rw[mR_mul] at h
 omega
theorem iO_(p:List Rat):∀n,(powP p n).length≤n* p.length+1
 |0=>by
  have h:=aD_ [1]
  have e:([1]:List Rat).length=1:=rfl
  show(trimQ [1]).length≤_
  omega
 |n+1=>by
  have h1:=iO_ p n
  have h2:=mulP_le (powP p n) p
  rw[powP,Nat.succ_mul]
  omega
theorem pB_pos(L:Nat):∀n,1≤pB L n
 |0=>Nat.le_refl _
 |n+1=>Nat.le_add_left _ _
theorem od_{p:List Rat}(h:bdL p 256):∀n,bdL (powP p n) (pB p.length n)
 |0=>fun q hq=>by
  have:=a9_ (l:=[1]) hq
  rw[List.mem_singleton.1 this]
  show qs 1≤1
  decide
 |n+1=>fun q hq=>by
  have h1:=dA_ (od_ h n) h (pB_pos _ _) (by decide) q hq
  have h2:=Nat.mul_le_mul_right (pB p.length n+256+1) (iO_ p n)
  show qs q≤(n* p.length+1) * (pB p.length n+257)+1
  obtain⟨a,ha⟩:∃a,a=(powP p n).length* (pB p.length n+256+1):=⟨_,rfl⟩
  obtain⟨b,hb⟩:∃b,b=(n* p.length+1) * (pB p.length n+256+1):=⟨_,rfl⟩
  rw[←ha] at h1 h2
  rw[←hb] at h2
  rw[show pB p.length n+257=pB p.length n+256+1 from rfl,←hb]
  omega
def ofQ(p m:List Rat):Nat→Rat
 |0=>0
 |n+1=>ofQ p m n+coP p n* coP m n
theorem hf_{p m:List Rat}{s t:Nat}(hp:bdL p s)(hm:bdL m t)(hs:1≤s)(ht:1≤t):∀n,qs (ofQ p m n)≤n* (s+t+1)+1
 |0=>by rw[Nat.zero_mul];exact(by decide:qs 0≤0+1)
 |n+1=>by
  have h1:=hf_ hp hm hs ht n
  have h2:=el_ (ofQ p m n) (coP p n* coP m n)
  have h3:=cd_ (coP p n) (coP m n)
  have h4:=bz_ hp hs n
  have h5:=bz_ hm ht n
  rw[ofQ,Nat.succ_mul];omega
def gK(f:List Rat):Nat→List Rat
 |0=>f
 |k+1=>mulP (gK f k) [0,1]
def moQ(f:List Rat)(s:Sp)(k:Nat):Rat:=evalP (aO_ (gK f k)) s.2- evalP (aO_ (gK f k)) s.1
def okMo(f:List Rat)(s:Sp)(k:Nat):Prop:=smL (gK f k)∧(gK f k).length≤1000000∧dg_ (aO_ (gK f k)) s.1∧dg_ (aO_ (gK f k)) s.2∧okMul (gK f k) [0,1]
def sqL(sq:Nat→Rat)(n:Nat):List Rat:=(List.range n).map sq
theorem gE_(sq:Nat→Rat)(n:Nat):sqL sq (n+1)=sqL sq n++[sq n]:=by simp[sqL,List.range_succ]
@[simp] theorem sqL_length (sq:Nat→Rat)(n:Nat):(sqL sq n).length=n:=by simp[sqL]
theorem g0_(p:List Rat)(h:trimQ p≠[]):∀n,trimQ (List.replicate n (0:Rat)++p)=List.replicate n 0++trimQ p
 |0=>rfl
 |n+1=>by
  rw[List.replicate_succ,List.cons_append,bN_,g0_ p h n,if_neg (by simp[h]),List.cons_append]
theorem gl_(p:List Rat)(h:trimQ p=[]):∀n,trimQ (List.replicate n (0:Rat)++p)=[]
 |0=>h
 |n+1=>by
  rw[List.replicate_succ,List.cons_append,bN_,gl_ p h n];rfl
theorem gZ_(p:List Rat)(n:Nat)(N:Nat)(h:n+(trimQ p).length≤N):(trimQ (List.replicate n (0:Rat)++p)).length≤N:=by
 by_cases e:trimQ p=[]
 rw[gl_ p e];exact Nat.zero_le _
 rw[g0_ p e];simp;omega
def tmQ(p m:List Rat)(k:Nat):Rat:=ofQ (trimQ (List.replicate k 0++p)) m (trimQ (List.replicate k (0:Rat)++p)).length
theorem pG_{p:List Rat}{s:Nat}(h:bdL p s)(hs:1≤s)(n:Nat):bdL (List.replicate n 0++p) s:=fun q hq=>by
 rcases List.mem_append.1 hq with hq|hq
 rw[List.eq_of_mem_replicate hq]
 have:qs 0=1:=by decide
 omega
 exact h q hq
def ofP(m p:List Rat):Rat:=ofQ (trimQ p) m (trimQ p).length
def okOf(m p:List Rat):Prop:=p.length≤1000000∧(trimQ p).length≤m.length∧(p.length+2) * (mxL p+mxL m+1)≤137438953472
instance (m p:List Rat):Decidable (okOf m p):=inferInstanceAs (Decidable (_∧_∧_))
def ldN(m p:List Rat):Rat:=ofP m (mulP p p)
def ldA(m p:List Rat):Rat:=ofP m (mulP (mulP p p) [0,1]) / ldN m p
def ldr(m:List Rat):Nat→List Rat×List Rat×Rat
 |0=>([1],[],0)
 |k+1=>(subP (mulP (ldr m k).1 [-ldA m (ldr m k).1,1]) (ay_ (ldr m k).2.1 (if k=0 then 0 else ldN m (ldr m k).1/ (ldr m k).2.2)),(ldr m k).1,ldN m (ldr m k).1)
def ldB(m:List Rat)(k:Nat):Rat:=if k=0 then 0 else ldN m (ldr m k).1/ (ldr m k).2.2
def ldAk(m:List Rat)(k:Nat):Rat:=ldA m (ldr m k).1
def okLd(m:List Rat)(k:Nat):Prop:=
 okMul (ldr m k).1 (ldr m k).1∧okOf m (mulP (ldr m k).1 (ldr m k).1)∧0< ldN m (ldr m k).1∧okMul (mulP (ldr m k).1 (ldr m k).1) [0,1]∧okOf m (mulP (mulP (ldr m k).1 (ldr m k).1) [0,1])∧
 qs (ofP m (mulP (mulP (ldr m k).1 (ldr m k).1) [0,1]))+qs (ldN m (ldr m k).1)≤549755813888∧qs (ldN m (ldr m k).1)+qs (ldr m k).2.2≤549755813888∧
 okMul (ldr m k).1 [-ldAk m k,1]∧(∀q∈(ldr m k).2.1,sm q)∧sm (ldB m k)∧(∀q∈mulP (ldr m k).1 [-ldAk m k,1],sm q)∧(∀q∈ay_ (ldr m k).2.1 (ldB m k),sm q)∧
 (ldr m k).2.1.length≤1099511627776∧(mulP (ldr m k).1 [-ldAk m k,1]).length≤1099511627776∧(ay_ (ldr m k).2.1 (ldB m k)).length≤1099511627776
instance (m:List Rat) (k:Nat):Decidable (okLd m k):=by unfold okLd;infer_instance
def okBs(g nx a c:List Rat):Prop:=okDiv g nx∧okMul (divP g nx).1 c∧(∀q∈a,sm q)∧(∀q∈mulP (divP g nx).1 c,sm q)∧a.length≤1099511627776∧(mulP (divP g nx).1 c).length≤1099511627776
instance (g nx a c:List Rat):Decidable (okBs g nx a c):=by unfold okBs;infer_instance
def bzL:Nat→List Rat→List Rat→List Rat→List Rat→Option (List Rat×List Rat)
 |0,_,_,_,_=>none
 |f+1,g,nx,a,c=>if trimQ nx=[] then some (g,a) else if okBs g nx a c∧nx.length≤1099511627776 then bzL f nx (divP g nx).2 c (subP a (mulP (divP g nx).1 c)) else none
def bzG(g:List Rat):List Rat:=ay_ g (((1:Int):Rat) / leadP g)
def bzA(q g a:List Rat):List Rat:=(divP (ay_ a (((1:Int):Rat) / leadP g)) (divP q (bzG g)).1).2
def bzB(p q g a:List Rat):List Rat:=(divP (subP (bzG g) (mulP (bzA q g a) p)) q).1
def okBz(p q g a:List Rat):Prop:=
 trimQ g≠[]∧g.length≤1099511627776∧a.length≤1099511627776∧(∀x∈g,sm x)∧(∀x∈a,sm x)∧qs (leadP g)≤68719476736∧okDiv q (bzG g)∧trimQ (bzG g)≠[]∧
 okDiv (ay_ a (((1:Int):Rat) / leadP g)) (divP q (bzG g)).1∧trimQ (divP q (bzG g)).1≠[]∧okMul (bzA q g a) p∧(∀x∈bzG g,sm x)∧(∀x∈mulP (bzA q g a) p,sm x)∧
 (bzG g).length≤1099511627776∧(mulP (bzA q g a) p).length≤1099511627776∧okDiv (subP (bzG g) (mulP (bzA q g a) p)) q
instance (p q g a:List Rat):Decidable (okBz p q g a):=by unfold okBz;infer_instance
def tpV(p m:List Rat)(i:Nat):Nat→Rat
 |0=>0
 |j+1=>if i< j then tpV p m i j+coP p j* coP m (j- 1- i) else tpV p m i j
def tpI(p m:List Rat)(j i0 i:Nat):Rat:=if i< i0 then tpV p m i (j+1) else tpV p m i j
theorem tpI_0(p m:List Rat)(j:Nat):tpI p m j 0=fun i=>tpV p m i j:=rfl
theorem tpI_e(p m:List Rat)(j:Nat):tpI p m j j=fun i=>tpV p m i (j+1):=by
 funext i
 unfold tpI
 by_cases h:i< j
 rw[if_pos h]
 rw[if_neg h,tpV,if_neg h]
theorem iC_{d i:Nat}(f:Nat→Rat)(h:i< d):(tabP d f)[i]?=some (f i):=by simp[tabP,h]
theorem tabP_set(d i:Nat)(f g:Nat→Rat)(h:i< d)(hg:∀x,x≠i→f x=g x):(tabP d f).set i (g i)=tabP d g:=by
 refine List.ext_getElem? fun x=>?_
 rw[List.getElem?_set]
 by_cases e:i=x
 subst e;simp[tabP,h]
 rw[if_neg e]
 by_cases hx:x< d
 rw[iC_ f hx,iC_ g hx,hg x (fun e2=>e e2.symm)]
 simp[tabP,hx]
theorem tpI_set(p m:List Rat)(d j i:Nat)(hi:i< j)(hj:j≤d):(tabP d (tpI p m j i)).set i (tpV p m i j+coP p j* coP m (j- 1- i))=tabP d (tpI p m j (i+1)):=by
 have e:tpV p m i j+coP p j* coP m (j- 1- i)=tpI p m j (i+1) i:=by unfold tpI;rw[if_pos (Nat.lt_succ_self i),tpV,if_pos hi]
 rw[e]
 refine tabP_set d i _ _ (by omega) fun x hx=>?_
 unfold tpI
 by_cases h:x< i
 rw[if_pos h,if_pos (by omega)]
 rw[if_neg h,if_neg (by omega)]
theorem nJ_{p m:List Rat}{s t:Nat}(hp:bdL p s)(hm:bdL m t)(hs:1≤s)(ht:1≤t)(i:Nat):∀j,qs (tpV p m i j)≤j* (s+t+1)+1
 |0=>by rw[Nat.zero_mul];exact(by decide:qs 0≤0+1)
 |j+1=>by
  have h1:=nJ_ hp hm hs ht i j
  have h2:=el_ (tpV p m i j) (coP p j* coP m (j- 1- i))
  have h3:=cd_ (coP p j) (coP m (j- 1- i))
  have h4:=bz_ hp hs j
  have h5:=bz_ hm ht (j- 1- i)
  rw[tpV,Nat.succ_mul]
  split <;> omega
def tpQ(p m:List Rat):List Rat:=tabP (p.length- 1) fun i=>tpV p m i p.length
theorem nN_(d:Nat)(p m:List Rat):tabP d (fun i=>tpV p m i 0)=List.replicate d 0:=by
 show(List.range d).map (fun _=>(0:Rat))=_
 rw[List.map_const',List.length_range]
def bkM(sc sh:Rat):List Rat:=[-(sh/ sc),((1:Int):Rat) / sc]
def apR(p w f:List Rat):List Rat:=(divP (mulP w (divP f p).2) p).2
def nwA(T:List Rat)(n:Nat)(out:List Rat)(k:Nat):Nat→Rat
 |0=>coP T (n- k) * ((k:Int):Rat)
 |i+1=>nwA T n out k i+coP T (n- (i+1)) * coP out (k- (i+1))
def suL(T:List Rat)(n:Nat):Nat→List Rat
 |0=>[((n:Int):Rat)]
 |k+1=>suL T n k++[-(nwA T n (suL T n k) (k+1) k)]
theorem cK_(T:List Rat)(n:Nat):∀k,(suL T n k).length=k+1
 |0=>rfl
 |k+1=>by rw[suL,List.length_append,cK_ T n k];rfl
def okSu(T:List Rat)(n k:Nat):Prop:=qs (coP T (n- (k+1)))+qs (((k+1:Nat):Int):Rat)≤549755813888∧
 ∀i,i< k→qs (coP T (n- (i+1)))+qs (coP (suL T n k) (k+1- (i+1)))≤549755813888∧qs (nwA T n (suL T n k) (k+1) i)+qs (coP T (n- (i+1)) * coP (suL T n k) (k+1- (i+1)))≤549755813888
def enM(e:Rat):List Rat:=[-e,((1:Int):Rat)]
def krS(e m:List Rat)(k:Nat):Nat→Rat
 |0=>0
 |j+1=>krS e m k j+coP e j* coP m (j+k)
def krE(m:List Rat)(n:Nat):Nat→List Rat
 |0=>List.replicate (n+1) 0++[((1:Int):Rat)]
 |k+1=>(krE m n k).set (n- k) (-(krS (krE m n k) m k (n+2) / coP m n))
theorem eK_(m:List Rat)(n:Nat):∀k,(krE m n k).length=n+2
 |0=>by simp[krE]
 |k+1=>by rw[krE,List.length_set,eK_ m n k]
def okKr(m:List Rat)(n k:Nat):Prop:=(∀j,j< n+2→qs (coP (krE m n k) j)+qs (coP m (j+k))≤549755813888∧qs (krS (krE m n k) m k j)+qs (coP (krE m n k) j* coP m (j+k))≤549755813888)∧
 qs (krS (krE m n k) m k (n+2))+qs (coP m n)≤549755813888
theorem dvE_add(p q:List Rat)(x:Rat):dvE (addP p q) x=dvE p x+dvE q x:=by
 rw[←mE_];exact jd_ (fun i=>by rw[dm_,cv_]) x
theorem pi_(a x:Rat):dvE (bT_ a) x=0:=by
 show dvE (trimQ [a]) x=0
 rw[jd_ (q:=[a]) (bf_ [a]) x,bX_,az_]
 show(0:Rat)+0* x=0
 grind
theorem gQ_(q:List Rat)(x:Rat):∀p,dvE (compP q p) x=dvE p (evalP q x) * dvE q x
 |[]=>by show(0:Rat)=0* _;grind
 |a::l=>by
  rw[compP,dvE_add,pi_,hF_,gQ_ q x l,a5_,bX_];grind
theorem be_(u v x:Rat):evalP [u,v] x=u+v* x:=by rw[ap_,ap_,az_];grind
theorem ph_(u v x:Rat):dvE [u,v] x=v:=by
 rw[bX_,bX_,ap_,az_]
 show(0* x+v)+(0+(0:Rat) * x) * x=v
 grind
def itP(a b:Rat)(p:List Rat):Rat:=evalP (aO_ p) b- evalP (aO_ p) a
theorem gr_{p q:List Rat}(h:∀i,coP p i=coP q i)(x:Rat):evalP (aO_ p) x=evalP (aO_ q) x:=
 ci_ (fun i=>by rw[bF_,bF_,h]) x
theorem il_{p q:List Rat}(h:Eqv p q)(a b:Rat):itP a b p=itP a b q:=by
 have:=trim_iff.1 (eqv_trim.1 h)
 unfold itP;rw[gr_ this,gr_ this]
theorem oz_(a b:Rat)(p q:List Rat):itP a b (addP p q)=itP a b p+itP a b q:=by
 have e:∀x,evalP (aO_ (addP p q)) x=evalP (aO_ p) x+evalP (aO_ q) x:=fun x=>by
  rw[←a7_]
  refine ci_ (fun i=>?_) x
  rw[dm_ (aO_ p),bF_,bF_,bF_,dm_]
  by_cases h:i=0
  rw[if_pos h,if_pos h,if_pos h];grind
  rw[if_neg h,if_neg h,if_neg h];grind
 unfold itP;rw[e,e];grind
theorem d2_(a b:Rat)(p:List Rat)(k:Rat):itP a b (ay_ p k)=itP a b p* k:=by
 have e:∀x,evalP (aO_ (ay_ p k)) x=evalP (aO_ p) x* k:=fun x=>by
  rw[←ar_]
  refine ci_ (fun i=>?_) x
  rw[bc_ (aO_ p),bF_,bF_,bc_]
  by_cases h:i=0
  rw[if_pos h,if_pos h];grind
  rw[if_neg h,if_neg h];grind
 unfold itP;rw[e,e];grind
theorem lz_(p:List Rat)(x:Rat):dvE (aO_ p) x=evalP p x:=by
 rw[←a1_,←a4_,hK_,a4_]
theorem nQ_pos'(n:Nat):(((n+1:Nat):Int):Rat)≠0:=fun e=>by
 have h:(((n+1:Nat):Int):Rat)=((0:Int):Rat):=e
 have:=Rat.intCast_inj.1 h
 omega
theorem ep_(G:List Rat)(y:Rat):evalP (aO_ (ao_ G)) y=evalP G y- coP G 0:=by
 rw[show evalP G y- coP G 0=evalP (subP G (bT_ (coP G 0))) y by rw[bp_,d4_]]
 refine ci_ (fun i=>?_) y
 rw[bF_,ge_,hP_]
 cases i with
 |zero=>rw[if_pos rfl,if_pos rfl];grind
 |succ i=>
  rw[if_neg (by omega),if_neg (by omega),bl_,Nat.add_sub_cancel,Rat.mul_div_cancel (nQ_pos' i)]
  grind
theorem oy_(c r:Rat)(p:List Rat):itP (c- r) (c+r) p=r* itP (-1) 1 (compP [c,r] p):=by
 have e:Eqv (ao_ (compP [c,r] (aO_ p))) (ay_ (compP [c,r] p) r):=fun x=>by
  rw[a1_,gQ_,lz_,ar_,a5_,ph_]
 have h1:=d2_ (-1) 1 (compP [c,r] p) r
 rw[←il_ e] at h1
 have h2:itP (-1) 1 (ao_ (compP [c,r] (aO_ p)))=itP (c- r) (c+r) p:=by
  unfold itP
  rw[ep_,ep_,a5_,a5_,be_,be_,show c+r* 1=c+r by grind,show c+r* -1=c- r by grind]
  grind
 rw[←h2,h1];grind
theorem fh_(x:Rat):∀n,evalP (gK [1] n) x=x^ n
 |0=>by rw[Rat.pow_zero];show evalP [1] x=1;rw[ap_,az_];grind
 |n+1=>by rw[gK,aq_,fh_ x n,be_,Rat.pow_succ];grind
theorem ofQ_it{a b:Rat}{m:List Rat}{N:Nat}(hm:∀i,i< N→coP m i=itP a b (gK [1] i))(p:List Rat):∀n,n≤N→n≤p.length→ofQ p m n=itP a b (p.take n)
 |0,_,_=>by
  show(0:Rat)=itP a b []
  unfold itP
  have e:∀x,evalP (aO_ []) x=0:=fun x=>dN_ (fun i=>by
   rw[bF_];split
   rfl
   show(0:Rat) / _=0;grind) x
  rw[e,e];grind
 |n+1,h1,h2=>by
  rw[ofQ,ofQ_it hm p n (by omega) (by omega),hm n (by omega),il_ (p:=p.take (n+1)) (q:=addP (p.take n) (ay_ (gK [1] n) (coP p n))) (fun x=>by
   rw[c8_ _ _ _ (by omega),a7_,ar_,fh_];grind),oz_,d2_]
  grind
theorem ka_{a b:Rat}{m:List Rat}{N:Nat}(hm:∀i,i< N→coP m i=itP a b (gK [1] i)){p:List Rat}(h:(trimQ p).length≤N):ofP m p=itP a b p:=by
 unfold ofP
 rw[ofQ_it hm _ _ h (Nat.le_refl _),List.take_length]
 exact il_ (fun x=>a4_ p x) a b
theorem pu_(f:Nat→Rat)(n i:Nat)(h:i< n):coP (sqL f n) i=f i:=by
 unfold coP sqL
 simp[List.getD,h]
theorem dI_(p q:List Rat)(n:Nat)(hp:p.length≤n+1)(hq:q.length≤n+1):(mulP p q).length≤2* n+1:=by
 by_cases h:p=[]
 subst h;unfold mulP;simp
 by_cases h2:q=[]
 subst h2;unfold mulP;simp
 have:=fz_ p q h
 omega
theorem mulP_line_len'(v:List Rat)(u w:Rat):(mulP v [u,w]).length≤v.length+1:=by
 by_cases h:v=[]
 subst h;unfold mulP;simp
 have:=fz_ v [u,w] h;simpa using this
theorem d1_(m:List Rat):∀k,(ldr m k).1.length≤k+1∧(ldr m k).2.1.length≤k+1
 |0=>⟨by simp[ldr],by simp[ldr]⟩
 |k+1=>by
  obtain⟨h1,h2⟩:=d1_ m k
  refine⟨?_,Nat.le_trans h1 (by omega)⟩
  show(subP (mulP (ldr m k).1 [-ldA m (ldr m k).1,1]) (ay_ (ldr m k).2.1 (if k=0 then 0 else ldN m (ldr m k).1/ (ldr m k).2.2))).length≤_
  have a:=iD_ (mulP (ldr m k).1 [-ldA m (ldr m k).1,1]) (ay_ (ldr m k).2.1 (if k=0 then 0 else ldN m (ldr m k).1/ (ldr m k).2.2))
  have b:=by_ (ldr m k).2.1 (if k=0 then 0 else ldN m (ldr m k).1/ (ldr m k).2.2)
  have c:(mulP (ldr m k).1 [-ldA m (ldr m k).1,1]).length≤k+1+1:=by
   by_cases h:(ldr m k).1=[]
   rw[h];unfold mulP;simp
   have:=fz_ (ldr m k).1 [-ldA m (ldr m k).1,1] h
   simp only[List.length_cons,List.length_nil] at this
   omega
  omega
structure Mv (m m0:List Rat)(c r:Rat)(N:Nat):Prop where
 r0:r≠0
 h:∀i,i< N→coP m i=itP (c- r) (c+r) (gK [1] i)
 h0:∀i,i< N→coP m0 i=itP (-1) 1 (gK [1] i)
theorem Mv.of{m m0:List Rat}{c r:Rat}{N:Nat}(H:Mv m m0 c r N){p q:List Rat}{k:Rat}(hp:(trimQ p).length≤N)(hq:(trimQ q).length≤N)(e:∀y,evalP p (c+r* y)=k* evalP q y):ofP m p=r* k* ofP m0 q:=by
 rw[ka_ H.h hp,ka_ H.h0 hq,oy_,il_ (p:=compP [c,r] p) (q:=ay_ q k) (fun y=>by rw[a5_,be_,e,ar_];grind),d2_]
 grind
theorem Mv.ldr{m m0:List Rat}{c r:Rat}{N:Nat}(H:Mv m m0 c r N):∀k,2* k≤N→(∀j,j< k→ldN m0 (ldr m0 j).1≠0)→
    (∀y,evalP (ldr m k).1 (c+r* y)=r^ k* evalP (ldr m0 k).1 y)∧(∀y,evalP (Go.Abs.ldr m k).2.1 (c+r* y) * r=r^ k* evalP (Go.Abs.ldr m0 k).2.1 y)∧(k≠0→(Go.Abs.ldr m k).2.2* r=r^ k* r^ k* (Go.Abs.ldr m0 k).2.2)
 |0,_,_=>⟨fun y=>by rw[Rat.pow_zero];show evalP [1] _=1* evalP [1] y;rw[ap_,az_,ap_,az_];grind,fun y=>by rw[Rat.pow_zero];show(0:Rat) * r=1* 0;grind,fun h=>absurd rfl h⟩
 |k+1,hk,hn=>by
  obtain⟨i1,i2,i3⟩:=Mv.ldr H k (by omega) fun j hj=>hn j (by omega)
  have hl:=(d1_ m k).1
  have hl0:=(d1_ m0 k).1
  have t1:∀p:List Rat,p.length≤k+1→(trimQ (mulP p p)).length≤N∧(trimQ (mulP (mulP p p) [0,1])).length≤N:=fun p hp=>by
   have a:=dI_ p p k hp hp
   have b:=aD_ (mulP p p)
   have c:=aD_ (mulP (mulP p p) [0,1])
   have d:=mulP_line_len' (mulP p p) 0 1
   omega
  have eN:ldN m (Go.Abs.ldr m k).1=r* (r^ k* r^ k) * ldN m0 (Go.Abs.ldr m0 k).1:=H.of (t1 _ hl).1 (t1 _ hl0).1 fun y=>by rw[aq_,aq_,i1];grind
  have hN0:=hn k (by omega)
  have hrk:r^ k≠0:=ih_ H.r0 k
  have eA:ldA m (Go.Abs.ldr m k).1=c+r* ldA m0 (Go.Abs.ldr m0 k).1:=by
   have e1:ofP m (mulP (mulP (Go.Abs.ldr m k).1 (Go.Abs.ldr m k).1) [0,1])=r* (r^ k* r^ k) * ofP m0 (addP (ay_ (mulP (Go.Abs.ldr m0 k).1 (Go.Abs.ldr m0 k).1) c) (ay_ (mulP (mulP (Go.Abs.ldr m0 k).1 (Go.Abs.ldr m0 k).1) [0,1]) r)):=
    H.of (t1 _ hl).2 (by
     have a:=f1_ (ay_ (mulP (Go.Abs.ldr m0 k).1 (Go.Abs.ldr m0 k).1) c) (ay_ (mulP (mulP (Go.Abs.ldr m0 k).1 (Go.Abs.ldr m0 k).1) [0,1]) r)
     have b:=by_ (mulP (Go.Abs.ldr m0 k).1 (Go.Abs.ldr m0 k).1) c
     have d:=by_ (mulP (mulP (Go.Abs.ldr m0 k).1 (Go.Abs.ldr m0 k).1) [0,1]) r
     have e:=dI_ _ _ k hl0 hl0
     have f:=mulP_line_len' (mulP (Go.Abs.ldr m0 k).1 (Go.Abs.ldr m0 k).1) 0 1
     have g:=aD_ (addP (ay_ (mulP (Go.Abs.ldr m0 k).1 (Go.Abs.ldr m0 k).1) c) (ay_ (mulP (mulP (Go.Abs.ldr m0 k).1 (Go.Abs.ldr m0 k).1) [0,1]) r))
     omega) fun y=>by
      rw[aq_,aq_,i1,be_,a7_,ar_,ar_,aq_,aq_,aq_,be_];grind
   have e2:ofP m0 (addP (ay_ (mulP (Go.Abs.ldr m0 k).1 (Go.Abs.ldr m0 k).1) c) (ay_ (mulP (mulP (Go.Abs.ldr m0 k).1 (Go.Abs.ldr m0 k).1) [0,1]) r))=c* ldN m0 (Go.Abs.ldr m0 k).1+r* ofP m0 (mulP (mulP (Go.Abs.ldr m0 k).1 (Go.Abs.ldr m0 k).1) [0,1]):=by
    have hA:=t1 _ hl0
    have a:=f1_ (ay_ (mulP (Go.Abs.ldr m0 k).1 (Go.Abs.ldr m0 k).1) c) (ay_ (mulP (mulP (Go.Abs.ldr m0 k).1 (Go.Abs.ldr m0 k).1) [0,1]) r)
    have b:=by_ (mulP (Go.Abs.ldr m0 k).1 (Go.Abs.ldr m0 k).1) c
    have d:=by_ (mulP (mulP (Go.Abs.ldr m0 k).1 (Go.Abs.ldr m0 k).1) [0,1]) r
    have e:=dI_ _ _ k hl0 hl0
    have f:=mulP_line_len' (mulP (Go.Abs.ldr m0 k).1 (Go.Abs.ldr m0 k).1) 0 1
    have g:=aD_ (addP (ay_ (mulP (Go.Abs.ldr m0 k).1 (Go.Abs.ldr m0 k).1) c) (ay_ (mulP (mulP (Go.Abs.ldr m0 k).1 (Go.Abs.ldr m0 k).1) [0,1]) r))
    rw[ka_ H.h0 (by omega),oz_,d2_,d2_]
    unfold ldN
    rw[ka_ H.h0 hA.1,ka_ H.h0 hA.2]
    grind
   unfold ldA
   rw[e1,e2,eN]
   have h1:r* (r^ k* r^ k)≠0:=fun e=>by
    rcases Rat.mul_eq_zero.1 e with e|e
    exact H.r0 e
    rcases Rat.mul_eq_zero.1 e with e|e <;> exact hrk e
   generalize r* (r^ k* r^ k)=z at *
   generalize ldN m0 (Go.Abs.ldr m0 k).1=w at *
   grind
  have eB:(if k=0 then 0 else ldN m (Go.Abs.ldr m k).1/ (Go.Abs.ldr m k).2.2)=r* r* (if k=0 then 0 else ldN m0 (Go.Abs.ldr m0 k).1/ (Go.Abs.ldr m0 k).2.2):=by
   by_cases h:k=0
   rw[if_pos h,if_pos h];grind
   rw[if_neg h,if_neg h,eN]
   have h3:=i3 h
   have h4:(Go.Abs.ldr m0 k).2.2≠0:=by
    cases k with
    |zero=>exact absurd rfl h
    |succ j=>exact hn j (by omega)
   have hr0:=H.r0
   have h5:(Go.Abs.ldr m k).2.2≠0:=fun e=>by
    rw[e] at h3
    have:r^ k* r^ k* (Go.Abs.ldr m0 k).2.2≠0:=fun e=>by
     rcases Rat.mul_eq_zero.1 e with e|e
     rcases Rat.mul_eq_zero.1 e with e|e <;> exact hrk e
     exact h4 e
    grind
   generalize ldN m0 (Go.Abs.ldr m0 k).1=w at *
   generalize (Go.Abs.ldr m0 k).2.2=v at *
   generalize (Go.Abs.ldr m k).2.2=u at *
   generalize r^ k=s at *
   have h6:u=s* s* v/ r:=by rw[←h3];exact(Rat.mul_div_cancel hr0).symm
   rw[h6]
   grind
  refine⟨fun y=>?_,fun y=>?_,fun _=>?_⟩
  show evalP (subP (mulP (Go.Abs.ldr m k).1 [-ldA m (Go.Abs.ldr m k).1,1]) (ay_ (Go.Abs.ldr m k).2.1 _)) _=_* evalP (subP (mulP (Go.Abs.ldr m0 k).1 [-ldA m0 (Go.Abs.ldr m0 k).1,1]) (ay_ (Go.Abs.ldr m0 k).2.1 _)) y
  rw[bp_,bp_,aq_,aq_,ar_,ar_,be_,be_,i1,eA,eB,Rat.pow_succ]
  have h2:=i2 y
  generalize evalP (Go.Abs.ldr m k).2.1 (c+r* y)=w at *
  generalize evalP (Go.Abs.ldr m0 k).2.1 y=w0 at *
  generalize (if k=0 then 0 else ldN m0 (Go.Abs.ldr m0 k).1/ (Go.Abs.ldr m0 k).2.2)=B at *
  have:w* (r* r* B)=r^ k* w0* r* B:=by rw[←h2];grind
  rw[this];grind
  show evalP (Go.Abs.ldr m k).1 (c+r* y) * r=_* evalP (Go.Abs.ldr m0 k).1 y
  rw[i1,Rat.pow_succ];grind
  show ldN m (Go.Abs.ldr m k).1* r=_* ldN m0 (Go.Abs.ldr m0 k).1
  rw[eN,Rat.pow_succ];grind
theorem iA_:∀(f k:Nat) (last next:List Rat) (acc out:List (List Rat)),e9_ f k last next acc=some out→out.length≤acc.length+(trimQ next).length
 |_,0,_,_,_,_,h=>by cases h
 |f,k+1,last,next,acc,out,h=>by
  rw[e9_] at h
  split at h
  cases h;omega
  ·rename_i h0
   split at h
   ·rename_i h1
    have ih:=iA_ f k _ _ _ _ h
    obtain⟨c,c0,hc⟩:=em_ h0
    obtain⟨d1,d2,_⟩:=cG_ h0 (show c≠0 by grind) hc
    have hm1:(-1:Rat)≠0:=by decide+kernel
    have hlt:=(bS_ last _ d1).2
    have a1:=List.length_pos_iff.2 d1
    have a2:=List.length_pos_iff.2 h0
    rw[ei_ hm1] at ih
    unfold dg at d2
    rw[List.length_append,List.length_singleton] at ih
    omega
   cases h
theorem lK_{e:Int}(he:e=1∨e= -1):∀(l:List Int) (t:Int),(t=1∨t= -1)→(∀s∈l,-1≤s∧s≤1)→(t::l).getLast?=some e→chL l 0 t % 2=if t=e then 0 else 1
 |[],t,ht,_,h=>by
  have:t=e:=by simpa using h
  rw[if_pos this];rfl
 |s::l,t,ht,hs,h=>by
  have h0:=hs s (List.mem_cons_self ..)
  by_cases hz:s≠0
  have ih:=lK_ he l s (by omega) (fun x hx=>hs x (List.mem_cons_of_mem _ hx)) (by rwa[List.getLast?_cons_cons] at h)
  rw[chL,if_pos hz,hV_]
  by_cases h1:s=e
  rw[if_pos h1] at ih
  by_cases h2:s= -t
  rw[if_pos h2,if_neg (by omega)];omega
  rw[if_neg h2,if_pos (by omega)];omega
  rw[if_neg h1] at ih
  by_cases h2:s= -t
  rw[if_pos h2,if_pos (by omega)];omega
  rw[if_neg h2,if_neg (by omega)];omega
  have hz0:s=0:=by omega
  rw[chL,if_neg hz]
  refine lK_ he l t ht (fun x hx=>hs x (List.mem_cons_of_mem _ hx)) ?_
  rw[List.getLast?_cons_cons,List.getLast?_cons] at h
  rw[List.getLast?_cons]
  cases hl:l.getLast? with
  |none=>rw[hl] at h;simp at h;omega
  |some y=>rw[hl] at h;exact h
theorem Ch.last{u:List Rat}{L:List (List Rat)}(H:Ch u L):∃e:Int,(e=1∨e= -1)∧∀x,((u::L).map (sgE x)).getLast?=some e:=by
 induction H with
 | @one u c hc hu=>
  have h:=Ch.sg (.one hc hu) 0
  have hb:=do_ 0 u
  refine⟨sgE 0 u,by have:=(h 0).2;omega,fun x=>?_⟩
  show some (sgE x u)=_
  rw[(h x).1]
 | @pair u v _ ih=>
  obtain⟨e,he,h⟩:=ih
  refine⟨e,he,fun x=>?_⟩
  rw[List.map_cons,List.map_cons,List.getLast?_cons_cons]
  exact h x
 | @step u v w L a c q _ _ _ _ ih=>
  obtain⟨e,he,h⟩:=ih
  refine⟨e,he,fun x=>?_⟩
  rw[List.map_cons,List.map_cons,List.getLast?_cons_cons]
  exact h x
theorem Ch.drop{u v:List Rat}{L:List (List Rat)}{k:Rat}(H:Ch u (v::L))(hk:0< k)(hd:∀x,evalP v x=k* dvE u x){x y:Rat}(hxy:x≤y)(hs:evalP u x* evalP u y< 0):chV (u::v::L) y+1≤chV (u::v::L) x:=by
 have h1:=H.fall hk hd hxy
 obtain⟨e,he,h⟩:=H.last
 have key:∀z,sgE z u≠0→chV (u::v::L) z % 2=if sgE z u=e then 0 else 1:=fun z hz=>by
  have hb:=do_ z u
  unfold chV
  rw[List.map_cons,chL,if_pos hz,if_neg (by omega)]
  exact lK_ he _ _ (by omega) (fun s hs=>by
   obtain⟨q,_,rfl⟩:=List.mem_map.1 hs
   exact do_ z q) (by have:=h z;rwa[List.map_cons] at this)
 have hx0:sgE x u≠0∧sgE y u≠0∧sgE x u≠sgE y u:=by
  rcases cT_ x u with⟨a,b⟩|⟨a,b⟩|⟨a,b⟩<;> rcases cT_ y u with⟨a',b'⟩|⟨a',b'⟩|⟨a',b'⟩
  have:=Rat.mul_pos b b';grind
  omega
  rw[b'] at hs;grind
  omega
  have:=Rat.mul_pos (show 0< -evalP u x by grind) (show 0< -evalP u y by grind);grind
  rw[b'] at hs;grind
  rw[b] at hs;grind
  rw[b] at hs;grind
  rw[b] at hs;grind
 have kx:=key x hx0.1
 have ky:=key y hx0.2.1
 have bx:=do_ x u
 have bY:=do_ y u
 by_cases hh:sgE x u=e
 rw[if_pos hh] at kx;rw[if_neg (by omega)] at ky;omega
 rw[if_neg hh] at kx;rw[if_pos (by omega)] at ky;omega
theorem kK_{f:Nat}{p:List Rat}{c:Cnt}(h:cn_ f p=some c)(hp:nz p):∃u L k,c.ch=u::L∧0< k∧(∀x,evalP u x=evalP c.p x* k)∧Ch u L∧L.length≤dg c.p∧(∀v L',L=v::L'→∃c':Rat,0< c'∧∀x,evalP v x=c'* dvE u x)∧(∀d,nz d→Dv d c.p→Dv d (ao_ c.p)→dg d=0):=by
 unfold cn_ at h
 cases hs:sqfM f p with
 |none=>rw[hs] at h;cases h
 |some s=>
  rw[hs,Option.bind_some] at h
  cases hc:d6_ f s with
  |none=>rw[hc] at h;cases h
  |some ch=>
   rw[hc,Option.bind_some] at h
   split at h
   ·rename_i hok
    cases h
    obtain⟨s0,s1⟩:=jE_ hs hp
    unfold d6_ at hc
    split at hc
    have hlen:=iA_ _ _ _ _ _ _ hc
    obtain⟨L,e,hL⟩:=fn_ _ _ _ _ _ _ hc
    obtain⟨k,k0,hk⟩:=em_ s0
    have hkne:k≠0:=by grind
    have hu0:nz (primP s):=(cG_ s0 hkne hk).1
    have hk1:k* (1/ k)=1:=by have:=Rat.div_mul_cancel (a:=1) hkne;grind
    have hk2:0< 1/ k:=by
     obtain⟨m,m0,m1⟩:=part 1 (d:=k) (by decide+kernel) k0
     rw[←m1,Rat.mul_div_cancel hkne];exact m0
    obtain⟨c1,c2⟩:=hL.ch hu0 fun d d0 d1 d2=>s1 d d0 (d1.scale (k:=1/ k) fun x=>by rw[hk];generalize 1/ k=m at *;grind) d2
    refine⟨primP s,L,k,e,k0,hk,c1,?_,fun v L' hv=>?_,s1⟩
    rw[e] at hlen
    have h1:=aD_ (ao_ s)
    have h2:=dk_ (trimQ s)
    have h3:trimQ (ao_ s)=trimQ (ao_ (trimQ s)):=dW_ fun i=>by rw[bl_,bl_,bf_]
    have h4:=aD_ (ao_ (trimQ s))
    simp only[List.length_append,List.length_singleton] at hlen
    rw[h3] at hlen
    show L.length≤dg s
    unfold dg
    omega
    obtain⟨c',c0,hv'⟩:=c2 v L' hv
    refine⟨c'* (1/ k),Rat.mul_pos c0 hk2,fun x=>?_⟩
    rw[hv',a1_,dvE_k hk x]
    generalize 1/ k=m at *
    grind
    cases hc
   cases h
theorem chL_nn(l:List Int):0≤chL l 0 0∧chL l 0 0≤(l.length:Int)- 1∨l=[]:=by
 cases l with
 |nil=>exact .inr rfl
 |cons s l=>
  refine .inl ?_
  have h0:=gz_ (s::l) 0 0
  by_cases hs:s≠0
  rw[chL,if_pos hs,if_neg (by omega)]
  have:=gz_ l 0 s
  simp only[List.length_cons];omega
  rw[chL,if_neg hs]
  have:=gz_ l 0 0
  simp only[List.length_cons];omega
theorem mY_{B x:Rat}(hB:1≤B)(hx:B≤x):∀(l:List Rat) (lead:Rat),l.getLast?=some lead→lead≠0→(∀c∈l.dropLast,ab c≤(B- 1) * ab lead)→
    ab lead≤ab (evalP l x)
 |[],_,h,_,_=>by cases h
 |[a],lead,h,h0,_=>by
  have e:a=lead:=by simpa using h
  subst e
  have e:evalP [a] x=a:=by rw[ap_,az_];grind
  rw[e];grind
 |a::b::m,lead,h,h0,hc=>by
  rw[List.getLast?_cons_cons] at h
  rw[List.dropLast_cons_cons] at hc
  have i1:=mY_ hB hx (b::m) lead h h0 fun c hcm=>hc c (List.mem_cons_of_mem _ hcm)
  have ha:=hc a (List.mem_cons_self ..)
  have e:evalP (a::b::m) x=evalP (b::m) x* x+a:=ap_ ..
  generalize evalP (b::m) x=w at *
  have h1:=Rat.mul_le_mul_of_nonneg_left i1 (show 0≤B- 1 by grind)
  have h2:=k7_ (w* x+a) (-a)
  rw[pK_,show w* x+a+ -a=w* x by grind,dz_] at h2
  have h3:ab x=x:=by unfold ab;rw[if_neg (by grind)]
  have h4:=Rat.mul_le_mul_of_nonneg_left (show B≤ab x by rw[h3];exact hx) (ab_nn w)
  rw[e]
  grind
theorem nz_{q:List Rat}(h:nz q){x:Rat}(hx:aU_ q≤x):ab (leadP q)≤ab (evalP q x):=by
 have hl:=List.length_pos_iff.2 h
 have hg:=bx_ (l:=q) (n:=(trimQ q).length- 1) (by omega)
 have h1:=mY_ (fX_ q) hx (trimQ q) (leadP q) (by rw[List.getLast?_eq_getElem?];exact hg) (bt_ h) fun c hc=>by
  rw[List.dropLast_eq_take] at hc
  have h2:=(gR_ (leadP q) _ 0).2 c hc
  have h3:=dz_ (c/ leadP q) (leadP q)
  rw[Rat.div_mul_cancel (bt_ h)] at h3
  rw[h3]
  have h4:=Rat.mul_le_mul_of_nonneg_right h2 (ab_nn (leadP q))
  unfold aU_
  grind
 rwa[a4_] at h1
theorem kX_{k:Rat}(hk:k≠0)(lead:Rat):∀(l:List Rat) (m:Rat),boL (lead* k) (l.map (· * k)) m=boL lead l m
 |[],m=>rfl
 |c::l,m=>by
  rw[List.map_cons,boL,boL,kX_ hk lead l,show c* k/ (lead* k)=c/ lead by
   by_cases h:lead=0
   subst h;grind
   grind]
theorem k9_{p q:List Rat}{k:Rat}(hk:k≠0)(h:∀x,evalP q x=evalP p x* k):trimQ q=(trimQ p).map (· * k):=by
 have e:∀i,coP q i=coP p i* k:=fun i=>by
  have:=trim_iff.1 (eM_ (p:=q) (q:=ay_ p k) fun x=>by rw[h,ar_]) i
  rw[this,bc_]
 have e2:trimQ q=trimQ (ay_ (trimQ p) k):=dW_ fun i=>by rw[bc_,bf_,e]
 rw[e2,ck_,nZ_ (aS_ p) hk]
theorem kW_{p q:List Rat}{k:Rat}(hk:k≠0)(hp:nz p)(h:∀x,evalP q x=evalP p x* k):aU_ q=aU_ p:=by
 have e:=k9_ hk h
 unfold aU_
 rw[(cG_ hp hk h).2.2,e,List.length_map,←List.map_take,kX_ hk]
theorem nu_{f:Nat}{p:List Rat}{c:Cnt}(h:cn_ f p=some c)(hp:nz p){A B:List Rat}(hsq:∀x,evalP A x* evalP p x+evalP B x* dvE p x=1)(xs:Nat→Rat)(hx:∀i,i< dg p→xs i< xs (i+1))(hs:∀i,i< dg p→evalP p (xs i) * evalP p (xs (i+1))< 0)(hd:dg p≠0):
    uptoV c (aU_ p)- dy_ c (-aU_ p)=dg p:=by
 obtain⟨s0,s1,s2,s3,s4,s5⟩:=kJ_ h hp
 obtain⟨u,L,k,e,k0,hu,H,hL,hdv,_⟩:=kK_ h hp
 -- the square-free part is a multiple
 obtain⟨κ,κ0,hκ⟩:∃κ:Rat,κ≠0∧∀x,evalP c.p x=evalP p x* κ:=by
  unfold sqfM at s1
  split at s1
  cases hg:gcdM f p (ao_ p) with
  |none=>rw[hg] at s1;cases s1
  |some g=>
   rw[hg,Option.bind_some] at s1
   split at s1
   have e1:=Option.some.inj s1
   obtain⟨g0,⟨a,ha⟩,⟨b,hb⟩,_⟩:=fI_ f _ _ _ hg (.inl hp)
   have hdvg:Dv g [1]:=⟨addP (mulP A a) (mulP B b),fun x=>by
    have h1:=hsq x
    rw[ha,←a1_,hb] at h1
    rw[ap_,az_,a7_,aq_,aq_];grind⟩
   have hg1:=hdvg.dg kb_
   have hd1:dg [1]=0:=by decide+kernel
   obtain⟨γ,γ0,hγ⟩:=l8_ g0 (by omega)
   obtain⟨m1,m2⟩:=cf_ p g0
   have hm:=dB_ (u:=a) (v:=[]) g0 (fun x=>by rw[ha x,az_];exact(Rat.add_zero _).symm) (fun e=>absurd rfl e)
   have hq:∀x,evalP p x=evalP (divP p g).1 x* γ:=fun x=>by
    have:=m1 x
    rw[hm x,az_,hγ] at this
    rw[this];grind
   obtain⟨κ,κ',hkk,hmon⟩:=iT_ (divP p g).1
   refine⟨κ/ γ,fun e=>?_,fun x=>?_⟩
   have h0:κ=0:=by
    have:=Rat.div_mul_cancel (a:=κ) γ0
    rw[e] at this;grind
   rw[h0] at hkk;grind
   rw[←e1,hmon,hq];grind
   cases s1
  cases s1
 have hbd:aU_ c.p=aU_ p:=kW_ κ0 hp hκ
 have hdg:dg c.p=dg p:=(cG_ hp κ0 hκ).2.1
 have hsgn:∀i,i< dg p→evalP u (xs i) * evalP u (xs (i+1))< 0:=fun i hi=>by
  have h1:=hs i hi
  rw[hu,hu,hκ,hκ]
  have h2:0< κ* κ:=by
   rcases(show κ< 0∨0< κ by grind) with g|g
   have:=Rat.mul_pos (show 0< -κ by grind) (show 0< -κ by grind);grind
   exact Rat.mul_pos g g
  have h3:=Rat.mul_pos h2 (Rat.mul_pos k0 k0)
  have h4:=Rat.mul_pos h3 (show 0< -(evalP p (xs i) * evalP p (xs (i+1))) by grind)
  grind
 have up:∀x,uptoV c x=c.far- chV c.ch x:=fun x=>rfl
 cases L with
 |nil=>
  obtain⟨γ,γ0,hγ⟩:=H.const
  have:=hsgn 0 (by omega)
  rw[hγ,hγ] at this
  rcases(show γ< 0∨0< γ by grind) with g|g
  have:=Rat.mul_pos (show 0< -γ by grind) (show 0< -γ by grind);grind
  have:=Rat.mul_pos g g;grind
 |cons v L=>
  obtain⟨c',c0,hv⟩:=hdv v L rfl
  have step:∀i,i≤dg p→uptoV c (xs 0)+i≤uptoV c (xs i):=fun i=>by
   induction i with
   |zero=>intro _;omega
   |succ i ih=>
    intro hi
    have h1:=ih (by omega)
    have h2:=H.drop c0 hv (show xs i≤xs (i+1) by have:=hx i (by omega);grind) (hsgn i (by omega))
    rw[up,e] at h1⊢
    rw[up,e] at h1⊢
    push_cast
    omega
  have nn:∀x,0≤uptoV c x:=fun x=>by
   by_cases hxb:x≤ -aU_ c.p
   rw[s4 x hxb];exact Int.le_refl _
   have:=s5 (-aU_ c.p) x (by grind)
   rw[s4 _ (by grind)] at this
   exact this
  have most:∀x,uptoV c x≤dg p:=fun x=>by
   rw[up,s3]
   have h1:0≤chV c.ch x:=by
    unfold chV
    rcases chL_nn (c.ch.map (sgE x)) with h|h
    exact h.1
    rw[h];exact Int.le_refl _
   have h2:chV c.ch (-aU_ c.p)≤dg p:=by
    unfold chV
    rcases chL_nn (c.ch.map (sgE (-aU_ c.p))) with h|h
    rw[e] at h⊢
    simp only[List.length_map,List.length_cons] at h hL
    have:=h.2
    rw[hdg] at hL
    push_cast at this
    omega
    rw[h];exact Int.natCast_nonneg _
   omega
  have high:(dg p:Int)≤uptoV c (aU_ p):=by
   have h1:=step (dg p) (Nat.le_refl _)
   have h2:=nn (xs 0)
   by_cases hb:xs (dg p)≤aU_ p
   have:=s5 _ _ hb
   omega
   have h3:chV (u::v::L) (aU_ p)=chV (u::v::L) (xs (dg p)):=H.same (e:=ab (leadP c.p) * k) (Rat.mul_pos (by have:=bt_ s0;unfold ab;split <;> grind) k0) (by grind) fun z z1 z2=>by
    rw[hu,dz_,show ab k=k by unfold ab;rw[if_neg (by grind)]]
    exact Rat.mul_le_mul_of_nonneg_right (nz_ s0 (by rw[hbd];exact z1)) (by grind)
   rw[up,e,h3,←e,←up]
   omega
  have low:dy_ c (-aU_ p)=0:=by
   unfold dy_
   have h1:=(fY_ s0 (x:= -aU_ c.p) (by grind)).1
   rw[←hbd,if_neg (fun e=>by
    rw[e] at h1
    have:=bt_ s0
    unfold ab at h1
    split at h1 <;> grind)]
   exact s4 _ (by grind)
  have:=most (aU_ p)
  rw[low];omega
theorem pk_(p q:List Rat):(divP p q).1.length≤(trimQ p).length+1- (trimQ q).length:=by
 have h1:=di_ (trimQ q) (leadP q) ((trimQ p).length+1- (trimQ q).length) (List.replicate ((trimQ p).length+1- (trimQ q).length) 0) (trimQ p)
 have h3:=aD_ (divR (trimQ q) (leadP q) ((trimQ p).length+1- (trimQ q).length) (List.replicate ((trimQ p).length+1- (trimQ q).length) 0) (trimQ p)).1
 rw[h1.1,List.length_replicate] at h3
 exact h3
theorem fy_(p q:List Rat):(mulP p q).length≤p.length+q.length- 1:=by
 by_cases h:p=[]
 subst h;unfold mulP;simp
 exact fz_ p q h
def zB:Nat→Nat→Nat→Nat→Nat→Nat→Nat→Nat→Nat→Nat→Nat→Bool
 |0,_,_,_,_,_,_,_,_,_,_=>false
 |f+1,m,n,s,t,u,v,la,lc,X,W=>if n=0 then decide (s≤X) && decide (u≤X) && decide (la≤W) else
  decide (2^ (m+1- n) * (s+2* t+1)≤137438953472) && decide ((m+1- n) * (2^ (m+1- n) * (s+2* t+1)+v+1)+1≤137438953472) && decide (u≤137438953472) && decide (v≤137438953472) && decide (la+lc+m≤1000) &&
  (List.range n).all fun k=>zB f n k t (2^ (m+1- n) * (s+2* t+1)) v (u+((m+1- n) * (2^ (m+1- n) * (s+2* t+1)+v+1)+1)+1) lc (max la (m+1- n+lc- 1)) X W
theorem mR_:∀f m n s t u v la lc X W (g nx a c:List Rat),zB f m n s t u v la lc X W=true→(trimQ g).length=m→(trimQ nx).length=n→bdL g s→bdL nx t→bdL a u→bdL c v→a.length≤la→c.length≤lc→1≤s→1≤t→1≤u→1≤v→g.length≤1000→nx.length≤1000→
    ∃G A,bzL f g nx a c=some (G,A)∧bdL G X∧bdL A X∧A.length≤W∧G.length≤1000
 |0,_,_,_,_,_,_,_,_,_,_,_,_,_,_,h,_,_,_,_,_,_,_,_,_,_,_,_,_,_=>by rw[zB] at h;cases h
 |f+1,m,n,s,t,u,v,la,lc,X,W,g,nx,a,c,h,hm,hn,hg,hx,ha,hc,hla,hlc,hs,ht,hu,hv,hgl,hxl=>by
  rw[zB] at h
  rw[bzL]
  by_cases h0:n=0
  rw[if_pos h0] at h
  simp only[Bool.and_eq_true,decide_eq_true_eq] at h
  have e:trimQ nx=[]:=List.length_eq_zero_iff.1 (by omega)
  rw[if_pos e]
  exact⟨g,a,rfl,fun x hx=>Nat.le_trans (hg x hx) h.1.1,fun x hx=>Nat.le_trans (ha x hx) h.1.2,by omega,hgl⟩
  rw[if_neg h0] at h
  simp only[Bool.and_eq_true,decide_eq_true_eq,List.all_eq_true,List.mem_range] at h
  obtain⟨⟨⟨⟨⟨c1,c2⟩,c3⟩,c4⟩,c5⟩,ck⟩:=h
  have hq0:trimQ nx≠[]:=fun e=>by rw[e] at hn;simp at hn;omega
  rw[if_neg hq0]
  have hL1:1≤2^ (m+1- n) * (s+2* t+1):=Nat.mul_pos (Nat.two_pow_pos _) (by omega)
  obtain⟨d1,d2⟩:=gd_ (L:=2^ (m+1- n) * (s+2* t+1)) hg hx hs ht hq0 (by rw[hm,hn];exact Nat.le_refl _)
  have hql:=pk_ g nx
  rw[hm,hn] at hql
  have hmm:=dA_ d1 hc hL1 hv
  have hmml:=fy_ (divP g nx).1 c
  generalize hL:2^ (m+1- n) * (s+2* t+1)=L at *
  have hmb:bdL (mulP (divP g nx).1 c) ((m+1- n) * (L+v+1)+1):=fun x hx=>Nat.le_trans (hmm x hx) (by have:=Nat.mul_le_mul_right (L+v+1) hql;omega)
  have mg:=bi_ hg hs
  have mn:=bi_ hx ht
  have mk:=bi_ d1 hL1
  have mc:=bi_ hc hv
  have hrl:=(eO_ (p:=g) (q:=nx)).2
  have hok:okBs g nx a c∧nx.length≤1099511627776:=by
   refine⟨⟨⟨?_,by omega,by omega⟩,⟨?_,by omega,by omega,by omega⟩,fun q hq=>Nat.le_trans (ha q hq) c3,fun q hq=>Nat.le_trans (hmb q hq) c2,by omega,by omega⟩,by omega⟩
   rw[hm,hn]
   have:=Nat.mul_le_mul_left (2^ (m+1- n)) (show mxL g+2* mxL nx+1≤s+2* t+1 by omega)
   omega
   have:=Nat.mul_le_mul hql (show mxL (divP g nx).1+mxL c+1≤L+v+1 by omega)
   omega
  rw[if_pos hok]
  have hkn:(trimQ (divP g nx).2).length< n:=by rw[←hn];exact(bS_ g nx hq0).2
  refine mR_ f n _ t L v _ lc _ X W nx (divP g nx).2 c _ (ck _ hkn) hn rfl hx d2 hc (mZ_ ha hmb hu (by omega)) hlc ?_ ht hL1 hv (by omega) hxl (by omega)
  have:=iD_ a (mulP (divP g nx).1 c)
  omega
theorem mQ_:∀f (g nx a c G A p q:List Rat),bzL f g nx a c=some (G,A)→(∃b,∀x,evalP g x=evalP a x* evalP p x+evalP b x* evalP q x)→(∃d,∀x,evalP nx x=evalP c x* evalP p x+evalP d x* evalP q x)→
    Dv G g∧Dv G nx∧∃b,∀x,evalP G x=evalP A x* evalP p x+evalP b x* evalP q x
 |0,_,_,_,_,_,_,_,_,h,_,_=>by cases h
 |f+1,g,nx,a,c,G,A,p,q,h,hb,hd=>by
  rw[bzL] at h
  by_cases h0:trimQ nx=[]
  rw[if_pos h0] at h
  obtain⟨rfl,rfl⟩:g=G∧a=A:=by cases h;exact⟨rfl,rfl⟩
  exact⟨.refl _,.zero _ (dH_ fun e=>e h0),hb⟩
  rw[if_neg h0] at h
  split at h
  obtain⟨b,hb⟩:=hb
  obtain⟨d,hd⟩:=hd
  have hm:=(bS_ g nx h0).1
  obtain⟨i1,i2,i3⟩:=mQ_ f nx (divP g nx).2 c (subP a (mulP (divP g nx).1 c)) G A p q h ⟨d,hd⟩ ⟨subP b (mulP (divP g nx).1 d),fun x=>by
   have h1:=hm x
   rw[hb,hd] at h1
   rw[bp_,aq_,bp_,aq_];grind⟩
  refine⟨i1.lin i2 (u:=(divP g nx).1) (v:=[1]) fun x=>?_,i1,i3⟩
  rw[←hm x,ap_,az_];grind
  cases h
theorem iB_{f:Nat}{p q G A B C:List Rat}(h:bzL f p q (bT_ ((1:Int):Rat)) []=some (G,A))(hq:nz q)(hco:∀x,evalP B x* evalP p x+evalP C x* evalP q x=1):
    ∃γ:Rat,γ≠0∧(∀x,evalP G x=γ)∧nz G∧dg G=0∧leadP G=γ∧∃b,∀x,evalP A x* evalP p x+evalP b x* evalP q x=γ:=by
 obtain⟨h1,h2,b,hb⟩:=mQ_ f _ _ _ _ G A p q h ⟨[],fun x=>by rw[d4_,az_];show _=((1:Int):Rat) * _+_;rw[show((1:Int):Rat)=1 from rfl];grind⟩ ⟨[1],fun x=>by rw[az_,ap_,az_];grind⟩
 have hG:nz G:=fun e=>by
  obtain⟨w,hw⟩:=h2
  refine hq ((eqv_trim (p:=q) (q:=[])).1 fun x=>?_)
  rw[hw,dH_ (p:=G) (fun e'=>e' e),az_];grind
 have hd:=(h1.lin h2 (r:=[1]) (u:=B) (v:=C) fun x=>by rw[ap_,az_,hco];grind).dg kb_
 have hd1:dg [1]=0:=by decide+kernel
 have hd0:dg G=0:=by omega
 obtain⟨γ,γ0,hγ⟩:=l8_ hG hd0
 have hl:leadP G=γ:=by
  have e:=(bC_ hG).2
  rw[hd0] at e
  rw[←e,←hγ 0]
  have:trimQ G=trimQ [γ]:=eqv_trim.1 fun x=>by rw[hγ,ap_,az_];grind
  have e2:=trim_iff.1 this 0
  rw[e2,hγ];rfl
 exact⟨γ,γ0,hγ,hG,hd0,hl,b,fun x=>by rw[←hb,hγ]⟩
theorem pB_{G:List Rat}{γ:Rat}(h0:γ≠0)(hl:leadP G=γ)(hG:∀x,evalP G x=γ):bzG G=[1]:=by
 have e:trimQ (bzG G)=trimQ [1]:=eqv_trim.1 fun x=>by
  unfold bzG
  rw[ar_,hG,hl,ap_,az_,show((1:Int):Rat)=1 from rfl];grind
 unfold bzG at e⊢
 rw[ck_] at e
 rw[e];decide+kernel
theorem div_one(q:List Rat):(divP q [1]).1=trimQ q:=by
 have h1:nz [1]:=kb_
 obtain⟨m1,m2⟩:=cf_ q h1
 have hd1:dg [1]=0:=by decide+kernel
 have hz:¬nz (md q [1]):=fun e=>by have:=m2 e;omega
 have:trimQ (divP q [1]).1=trimQ q:=eqv_trim.1 fun x=>by
  have:=m1 x
  rw[dH_ hz,ap_,az_] at this
  rw[this];grind
 rw[←this];exact(dX_ q [1]).1.symm
theorem bzA_inv{f:Nat}{p q G A B C:List Rat}(h:bzL f p q (bT_ ((1:Int):Rat)) []=some (G,A))(hq:nz q)(hco:∀x,evalP B x* evalP p x+evalP C x* evalP q x=1):∃w,∀x,evalP (bzA q G A) x* evalP p x=1+evalP w x* evalP q x:=by
 obtain⟨γ,γ0,hγ,hG,hd0,hl,b,hb⟩:=iB_ h hq hco
 unfold bzA
 rw[pB_ γ0 hl hγ,div_one,hl]
 have hq':nz (trimQ q):=by unfold nz;rw[aS_];exact hq
 have m1:=(cf_ (ay_ A (((1:Int):Rat) / γ)) hq').1
 refine⟨addP (ay_ b (-1/ γ)) (ay_ (mulP (divP (ay_ A (((1:Int):Rat) / γ)) (trimQ q)).1 p) (-1)),fun x=>?_⟩
 have h1:=m1 x
 have h2:=hb x
 rw[ar_,a4_,show((1:Int):Rat)=1 from rfl] at h1
 unfold md at h1
 rw[a7_,ar_,ar_,aq_]
 generalize evalP (divP (ay_ A (((1:Int):Rat) / γ)) (trimQ q)).2 x=w at *
 generalize evalP (divP (ay_ A (((1:Int):Rat) / γ)) (trimQ q)).1 x=k at *
 have h3:evalP A x* (1/ γ) * evalP p x=1- evalP b x* evalP q x/ γ:=by
  have:evalP A x* evalP p x=γ- evalP b x* evalP q x:=by grind
  grind
 have h4:evalP A x* (1/ γ) * evalP p x=(k* evalP q x+w) * evalP p x:=by rw[h1]
 grind
def zOK(N s X:Nat):Bool:=
 decide (1≤X) && decide (N≤100) && decide (2^ (N+1) * (s+4* X+10)≤137438953472) && decide (2^ N* ((N+1) * (3* X+4* s+10)+2* X+2* s+10)≤137438953472) &&
 ((List.range (N+1)).all fun m=>(List.range (N+1)).all fun n=>if n≤m then true else zB (N+3) m n s s 1 1 1 0 X (n- 1))
theorem okBz_of{N s X:Nat}(hz:zOK N s X=true){p q B C:List Rat}(hp:bdL p s)(hq:bdL q s)(hs:1≤s)(hpl:p.length< q.length)(hql:q.length≤N)(hq0:nz q)(hqt:trimQ q=q)(hco:∀x,evalP B x* evalP p x+evalP C x* evalP q x=1):
    ∃G A,bzL (N+3) p q (bT_ ((1:Int):Rat)) []=some (G,A)∧okBz p q G A∧bdL (bzA q G A) (2* X+2* s+10)∧(bzA q G A).length< q.length∧bzG G=[1]:=by
 unfold zOK at hz
 simp only[Bool.and_eq_true,decide_eq_true_eq,List.all_eq_true,List.mem_range] at hz
 obtain⟨⟨⟨⟨hX,hN⟩,hS⟩,hT⟩,hB⟩:=hz
 have hqlen:=List.length_pos_iff.2 hq0
 have htp:=aD_ p
 have hqe:(trimQ q).length=q.length:=by rw[hqt]
 have htq:=aD_ q
 have hb:=hB (trimQ p).length (by omega) (trimQ q).length (by omega)
 rw[if_neg (by omega)] at hb
 have c1:bT_ ((1:Int):Rat)=[1]:=by decide+kernel
 obtain⟨G,A,h1,h2,h3,h4,h5⟩:=mR_ (N+3) _ _ s s 1 1 1 0 X _ p q [1] [] hb rfl rfl hp hq (by decide) (by intro x hx;cases hx) (by simp) (by simp) hs hs (by decide) (by decide) (by omega) (by omega)
 rw[←c1] at h1
 obtain⟨γ,γ0,hγ,hG,hd0,hl,b,hbb⟩:=iB_ h1 hq0 hco
 have g1:=pB_ γ0 hl hγ
 have hlq:qs (leadP G)≤X:=os_ h2 hX
 have q1:qs ((1:Int):Rat)=1:=by decide
 have hqd:=cI_ ((1:Int):Rat) (leadP G)
 have hP:1≤2^ (N+1):=Nat.one_le_two_pow
 have hP2:2^ 2≤2^ (N+1):=Nat.pow_le_pow_right (by decide) (by omega)
 have hS1:=Nat.mul_le_mul_right (s+4* X+10) hP2
 have hsc:bdL (ay_ A (((1:Int):Rat) / leadP G)) (2* X+1):=fun x hx=>by
  have:=e0_ (k:=((1:Int):Rat) / leadP G) h3 hX x hx
  omega
 have hscl:=by_ A (((1:Int):Rat) / leadP G)
 have hsct:=aD_ (ay_ A (((1:Int):Rat) / leadP G))
 have hdv:bdL (bzA q G A) (2* X+2* s+10):=by
  unfold bzA
  rw[g1,div_one]
  refine(gd_ hsc (eZ_ hq) (by omega) hs (by rw[aS_];exact hq0) ?_).2
  rw[aS_,show(trimQ (ay_ A (((1:Int):Rat) / leadP G))).length+1- (trimQ q).length=0 by omega]
  omega
 have hdl:(bzA q G A).length< q.length:=by
  have a:(trimQ (bzA q G A)).length< q.length:=by
   unfold bzA
   rw[g1,div_one]
   have:=(bS_ (ay_ A (((1:Int):Rat) / leadP G)) (trimQ q) (by rw[aS_];exact hq0)).2
   rw[aS_,hqt] at this
   rw[hqt];exact this
  have b:trimQ (bzA q G A)=bzA q G A:=(dX_ _ _).2
  rwa[b] at a
 have m1:=bi_ hq hs
 have m2:=bi_ hp hs
 have m3:=bi_ hdv (by omega)
 have m4:=bi_ hsc (by omega)
 have o1:mxL [1]=1:=by decide+kernel
 have t1:trimQ [1]=[1]:=by decide+kernel
 have hmu:=dA_ hdv hp (by omega) hs
 have hmul:=fy_ (bzA q G A) p
 have e1:(bzA q G A).length* (2* X+2* s+10+s+1)≤N* (2* X+2* s+10+s+1):=Nat.mul_le_mul_right _ (by omega)
 have e2:N* (2* X+2* s+10+s+1)≤(N+1) * (3* X+4* s+10):=Nat.mul_le_mul (by omega) (by omega)
 have hP3:1≤2^ N:=Nat.one_le_two_pow
 have hT1:=Nat.mul_le_mul_right ((N+1) * (3* X+4* s+10)+2* X+2* s+10) hP3
 generalize hE:(N+1) * (3* X+4* s+10)=E at *
 have hmb:bdL (mulP (bzA q G A) p) (E+1):=fun x hx=>Nat.le_trans (hmu x hx) (by omega)
 have hsu:=mZ_ (p:=[1]) (s:=1) (by intro x hx;rw[List.mem_singleton.1 hx];decide) hmb (by decide) (by omega)
 have m5:=bi_ hsu (by omega)
 have hsul:=iD_ [1] (mulP (bzA q G A) p)
 have hst:=aD_ (subP [1] (mulP (bzA q G A) p))
 simp only[List.length_singleton] at hsul
 have hql2:q.length=(trimQ q).length:=by rw[hqt]
 have e3:2^ ((trimQ q).length+1- (trimQ [1]).length) * (mxL q+2* mxL [1]+1)≤2^ (N+1) * (s+4* X+10):=Nat.mul_le_mul (Nat.pow_le_pow_right (by decide) (by omega)) (by omega)
 have e4:2^ ((trimQ (subP [1] (mulP (bzA q G A) p))).length+1- (trimQ q).length) * (mxL (subP [1] (mulP (bzA q G A) p))+2* mxL q+1)≤2^ N* (E+2* X+2* s+10):=Nat.mul_le_mul (Nat.pow_le_pow_right (by decide) (by omega)) (by omega)
 have e5:(bzA q G A).length* (mxL (bzA q G A)+mxL p+1)≤(bzA q G A).length* (2* X+2* s+10+s+1):=Nat.mul_le_mul_left _ (by omega)
 refine⟨G,A,h1,⟨hG,by omega,by omega,fun x hx=>Nat.le_trans (h2 x hx) (by omega),fun x hx=>Nat.le_trans (h3 x hx) (by omega),by omega,?_,?_,?_,?_,?_,?_,?_,?_,by omega,?_⟩,hdv,hdl,g1⟩
 rw[g1];exact⟨by omega,by omega,by simp⟩
 rw[g1];exact kb_
 rw[g1,div_one,hqt]
 exact⟨by rw[show(trimQ (ay_ A (((1:Int):Rat) / leadP G))).length+1- (trimQ q).length=0 by omega];omega,by omega,by omega⟩
 rw[g1,div_one,aS_];exact hq0
 exact⟨by omega,by omega,by omega,by omega⟩
 rw[g1];intro x hx;rw[List.mem_singleton.1 hx];decide
 exact fun x hx=>Nat.le_trans (hmb x hx) (by omega)
 rw[g1];simp
 rw[g1];exact⟨by omega,by omega,by omega⟩
end Go.Abs
