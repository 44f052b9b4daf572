/- Part W10 of the proof. -/
import Derived.Test.YtdjfjpeoddmamaaGreatDoorW09
import Derived.Lib.ItoaNum
set_option linter.all false
namespace Go.Abs
def hG:Nat→Nat→Nat→Nat→Nat→Nat→Bool
 |0,_,_,_,_,_=>false
 |f+1,m,n,s,t,X=>if n=0 then decide (s≤X) else
  decide (2^ (m+1- n) * (s+2* t+1)≤137438953472) && (List.range n).all fun k=>hG f n k t (s+(m+1- n) * (t+1)) X
theorem l5_:∀f m n s t X (p q:List Rat),hG f m n s t X=true→(trimQ p).length=m→(trimQ q).length=n→bdL p s→bdL q t→Ht p s→Ht q t→1≤s→1≤t→p.length≤1000→q.length≤1000→X≤137438953472→
    ∃g,gcdM f p q=some g∧g.length≤1000∧Ht g X∧bdL g X
 |0,_,_,_,_,_,_,_,h,_,_,_,_,_,_,_,_,_,_,_=>by cases h
 |f+1,m,n,s,t,X,p,q,h,hm,hn,hp,hq,kp,kq,hs,ht,hp1,hq1,hX=>by
  rw[hG] at h
  rw[gcdM]
  by_cases h0:n=0
  rw[if_pos h0] at h
  have hsX:=of_decide_eq_true h
  have e:trimQ q=[]:=List.length_eq_zero_iff.1 (by omega)
  rw[if_pos e,if_pos (f7_ hp (by omega))]
  obtain⟨a,b⟩:=kp.monic hs
  exact⟨_,rfl,Nat.le_trans (gg_ p) hp1,b.mono hsX,fun x hx=>Nat.le_trans (a x hx) hsX⟩
  rw[if_neg h0] at h
  simp only[Bool.and_eq_true,decide_eq_true_eq,List.all_eq_true,List.mem_range] at h
  obtain⟨hL,hk⟩:=h
  have hq0:trimQ q≠[]:=fun e=>by rw[e] at hn;simp at hn;omega
  have hmp:=mxL_le hp hs
  have hmq:=mxL_le hq ht
  have hmono:2^ (m+1- n) * (mxL p+2* mxL q+1)≤2^ (m+1- n) * (s+2* t+1):=Nat.mul_le_mul_left _ (by omega)
  rw[if_neg hq0,if_pos (show okDiv p q from⟨by rw[hm,hn];omega,by omega,by omega⟩)]
  have hd:=(j4_ kp kq hq0).2
  rw[hm,hn] at hd
  obtain⟨b1,b2⟩:=hd.monic (by omega)
  have hlen:=(f1_ (p:=p) (q:=q)).2
  have hml:=gg_ (divP p q).2
  have hkn:(trimQ (divP p q).2).length< n:=by rw[←hn];exact(eQ_ p q hq0).2
  have hmn:(trimQ (bd_ (divP p q).2)).length=(trimQ (divP p q).2).length:=by
   by_cases hz:trimQ (divP p q).2=[]
   unfold bd_;rw[if_pos hz,hz];rfl
   unfold bd_;rw[if_neg hz]
   exact hk_ fun e=>by have:=Rat.div_mul_cancel (a:=1) (b9_ hz);rw[e] at this;grind
  exact l5_ f n _ t _ X q _ (hk _ hkn) hn hmn hq b1 kq b2 ht (by omega) hq1 (by omega) hX
def cB:Nat→Nat→Nat→Nat→Nat→Nat→Nat→Bool
 |0,_,_,_,_,_,_=>false
 |f+1,m,n,s,t,b,T=>if n=0 then true else
  decide (t≤T) && decide ((n+4) * b≤34359738368) && decide (2^ (m+1- n) * (s+2* t+1)≤137438953472) &&
   (List.range n).all fun k=>cB f n k t (s+(m+1- n) * (t+1)) (2^ (m+1- n) * (s+2* t+1)) T
theorem lz_:∀k f m n s t b T (last next:List Rat) (acc:List (List Rat)),cB k m n s t b T=true→(trimQ last).length=m→(trimQ next).length=n→next.length=n→bdL last s→Ht last s→Ht next t→bdL next b→1≤s→1≤t→1≤b→last.length≤1000→next.length≤1000→
    ∃out,jj_ f k last next acc=some out∧out.length≤acc.length+n∧∀q∈out,q∈acc∨(nz q∧q.length≤n∧bdL q T)
 |0,_,_,_,_,_,_,_,_,_,_,h,_,_,_,_,_,_,_,_,_,_,_,_=>by cases h
 |k+1,f,m,n,s,t,b,T,last,next,acc,h,hm,hn,hnl,hl,kl,kn,hnb,hs,ht,hb,hl1,hn1=>by
  rw[cB] at h
  rw[jj_]
  by_cases h0:n=0
  ·have e:trimQ next=[]:=List.length_eq_zero_iff.1 (by omega)
   rw[if_pos e]
   exact⟨acc,rfl,by omega,fun q hq=> .inl hq⟩
  rw[if_neg h0] at h
  simp only[Bool.and_eq_true,decide_eq_true_eq,List.all_eq_true,List.mem_range] at h
  obtain⟨⟨⟨hT,hP⟩,hL⟩,hk⟩:=h
  have hq0:trimQ next≠[]:=fun e=>by rw[e] at hn;simp at hn;omega
  obtain⟨p1,p2⟩:=kn.prim hq0 ht
  obtain⟨c,c0,hc⟩:=lR_ hq0
  obtain⟨d1,d2,_⟩:=g5_ hq0 (show c≠0 by grind) hc
  have hpn:(trimQ (primP next)).length=n:=by
   have a1:=List.length_pos_iff.2 d1
   have a2:=List.length_pos_iff.2 hq0
   unfold dg at d2;omega
  have hmb:=mxL_le hnb hb
  have hml:=mxL_le hl hs
  have hmp:=mxL_le p1 ht
  have hpl:(primP next).length=n:=by
   unfold primP;unfold primP at hpn
   rw[←hpn];unfold aN_;rw[bj_]
  have hmono:2^ (m+1- n) * (mxL last+2* mxL (primP next)+1)≤2^ (m+1- n) * (s+2* t+1):=Nat.mul_le_mul_left _ (by omega)
  have hmono2:(n+4) * mxL next≤(n+4) * b:=Nat.mul_le_mul_left _ hmb
  rw[if_neg hq0,if_pos (show kJ_ next∧okDiv last (primP next)∧trimQ (primP next)≠[] from⟨⟨by rw[hnl];omega,by omega⟩,⟨by rw[hm,hpn];omega,by omega,by omega⟩,d1⟩)]
  have hd:=(j4_ kl p2 d1).2
  rw[hm,hpn] at hd
  have hbd:=(qu_ hl p1 hs ht d1 (by rw[hm,hpn];exact Nat.le_refl _)).2
  have hL1:1≤2^ (m+1- n) * (s+2* t+1):=Nat.mul_pos (Nat.two_pow_pos _) (by omega)
  have hm1:(-1:Rat)≠0:=by decide+kernel
  have hkn:(trimQ (aN_ (divP last (primP next)).2 (-1))).length< n:=by rw[hk_ hm1,←hpn];exact(eQ_ last _ d1).2
  have hsl:(aN_ (divP last (primP next)).2 (-1)).length=(trimQ (aN_ (divP last (primP next)).2 (-1))).length:=by unfold aN_;rw[bj_]
  obtain⟨out,o1,o2,o3⟩:=lz_ k f n _ t _ _ T (primP next) (aN_ (divP last (primP next)).2 (-1)) (acc++[primP next]) (hk _ hkn) hpn rfl hsl p1 p2 (hd.scale hm1 fun i=>bN_ _ _ i)
   (ex_ fun i=>by
    rw[bN_,show coP (divP last (primP next)).2 i* -1= -coP (divP last (primP next)).2 i by grind,fi_]
    exact bQ_ hbd hL1 i) ht (by omega) hL1 (by omega) (by omega)
  refine⟨out,o1,?_,fun q hq=>?_⟩
  rw[List.length_append,List.length_singleton] at o2;omega
  rcases o3 q hq with h|⟨a,b',c'⟩
  rcases List.mem_append.1 h with h|h
  exact .inl h
  rw[List.mem_singleton.1 h]
  exact .inr ⟨d1,by omega,fun x hx=>Nat.le_trans (p1 x hx) hT⟩
  exact .inr ⟨a,by omega,c'⟩
theorem hG_all:((List.range 8).all fun m=>(List.range m).all fun n=>hG 9 m n 161 165 20000)=true:=by decide+kernel
theorem cB_all:((List.range 8).all fun m=>(List.range m).all fun n=>cB 9 m n 140168 140172 140172 20000000)=true:=by decide+kernel
theorem jm_(p:List Rat)(k:Rat):trimQ (aN_ p k)=aN_ p k:=bj_ _
theorem jn_(p:List Rat):trimQ (bd_ p)=bd_ p:=by
 unfold bd_;split
 rfl
 exact bj_ _
theorem h5_{p:List Rat}(h:nz p):(a2_ p).length< (trimQ p).length:=by
 have h0:=List.length_pos_iff.2 h
 have e:a2_ p=a2_ (trimQ p):=by
  have h1:trimQ (a2_ p)=a2_ p:=bj_ _
  have h2:trimQ (a2_ (trimQ p))=a2_ (trimQ p):=bj_ _
  rw[←h1,←h2]
  exact fE_ fun i=>by rw[cD_,cD_,bs_]
 have:=fz_ (trimQ p)
 rw[e];omega
theorem h4_{p:List Rat}{s g:Nat}(hl:(trimQ p).length≤7)(hb:bdL p s)(hs:1≤s)(hH:Ht p g):bdL (a2_ p) (s+4)∧Ht (a2_ p) (g+4):=by
 have e:∀i,coP (a2_ p) i=coP (a2_ (trimQ p)) i:=fun i=>by rw[cD_,cD_,bs_]
 constructor
 refine ex_ fun i=>?_
 rw[cD_]
 by_cases hi:i+1< (trimQ p).length
 have h1:=cb_ (coP p (i+1)) (nQ (i+1))
 have h2:=qs_nQ (n:=i+1) (k:=3) (bl_le (by omega)) (by decide)
 have h3:=bQ_ hb hs (i+1)
 exact Nat.le_trans h1 (by omega)
 rw[←bs_,cs_ (show(trimQ p).length≤i+1 by omega),Rat.zero_mul]
 exact Nat.le_trans (by decide:qs 0≤1) (by omega)
 refine((hH.trim).derive.scale (c:=1) (r:=a2_ p) (by decide+kernel) fun i=>by rw[e];grind).mono ?_
 have:bl (trimQ p).length≤3:=bl_le (by omega)
 omega
theorem oX_{p:List Rat}(np:nz p)(hl:(trimQ p).length≤7)(hp:p.length≤1000)(hb:bdL p 20):∃s,sqfM 9 p=some s∧nz s∧s.length≤7∧Ht s 140168∧bdL s 140168:=by
 have hH:Ht p 161:=(Ht.of (s:=20) (p:=trimQ p) fun q hq=>hb q (bk_ hq)).untrim.mono (by omega)
 have hlp:=List.length_pos_iff.2 np
 have hdl:=h5_ np
 have hdt:trimQ (a2_ p)=a2_ p:=bj_ _
 have hd0:=h4_ hl hb (by decide) hH
 have hd:bdL (a2_ p) 165∧Ht (a2_ p) 165:=⟨fun x hx=>Nat.le_trans (hd0.1 x hx) (by decide),hd0.2⟩
 have hg:=hG_all
 simp only[List.all_eq_true,List.mem_range] at hg
 obtain⟨g,g1,g2,g3,g4⟩:=l5_ 9 _ _ 161 165 20000 p (a2_ p) (hg _ (by omega) _ (by rw[hdt];exact hdl)) rfl rfl (fun x hx=>Nat.le_trans (hb x hx) (by decide)) hd.1 hH hd.2 (by decide) (by decide) hp (by omega) (by decide)
 obtain⟨z0,z1,z2,a,b,z3⟩:=nc_ 9 _ _ _ g1 (.inl np)
 obtain⟨u,hu⟩:=z1
 obtain⟨m1,m2⟩:=hD_ p z0
 have hm:=md_uniq (u:=u) (v:=[]) z0 (fun x=>by rw[hu x,aX_];exact(Rat.add_zero _).symm) (fun e=>absurd rfl e)
 have hs:∀x,evalP p x=evalP (divP p g).1 x* evalP g x:=fun x=>by
  have:=m1 x
  rw[hm x,aX_] at this
  rw[this];grind
 obtain⟨n1,n2⟩:=kM_ hs np
 have e1:=(dg_mul' n1 n2 hs).2.1
 have e2:=(eh_ n1).2.2
 have e3:=(eh_ n1).2.1
 have hlg:=List.length_pos_iff.2 z0
 have hls:=List.length_pos_iff.2 e3
 have h1:=mxL_le hb (by decide)
 have h2:=mxL_le g4 (by decide)
 have hpow:2^ ((trimQ p).length+1- (trimQ g).length)≤2^ 7:=Nat.pow_le_pow_right (by decide) (by omega)
 have hmul:=Nat.mul_le_mul hpow (show mxL p+2* mxL g+1≤50000 by omega)
 have hq:=(j4_ hH g3 z0).1
 have hrw:((trimQ p).length+1- (trimQ g).length) * (20000+1)≤7* (20000+1):=Nat.mul_le_mul_right _ (by omega)
 obtain⟨q1,q2⟩:=(hq.mono (show _≤140168 by omega)).monic (by decide)
 refine⟨bd_ (divP p g).1,?_,e3,?_,q2,q1⟩
 unfold sqfM
 rw[if_pos ⟨f7_ hb (by decide),by omega⟩,g1,Option.bind_some,if_pos ⟨z0,by omega,by omega,by omega⟩]
 have:=jn_ (divP p g).1
 rw[←this]
 unfold dg at e1 e2;omega
theorem lp_{p:List Rat}(np:nz p)(hl:(trimQ p).length≤7)(hp:p.length≤1000)(hb:bdL p 20):∃c,eS_ 9 p=some c∧okCnt c∧c.ch.length≤8∧(∀q∈c.ch,nz q∧q.length≤7∧bdL q 20000000)∧nz c.p∧c.p.length≤7∧bdL c.p 140168:=by
 obtain⟨s,s1,s2,s3,s4,s5⟩:=oX_ np hl hp hb
 have hst:=a9_ s
 have hsp:=List.length_pos_iff.2 s2
 obtain⟨p1,p2⟩:=s4.prim s2 (by decide)
 obtain⟨c,c0,hc⟩:=lR_ s2
 obtain⟨d1,d2,_⟩:=g5_ s2 (show c≠0 by grind) hc
 have hpn:(trimQ (primP s)).length=(trimQ s).length:=by
  have a1:=List.length_pos_iff.2 d1
  unfold dg at d2;omega
 have hpl:(primP s).length=(trimQ (primP s)).length:=by unfold primP;rw[jm_]
 have hdl:=h5_ s2
 have hdt:trimQ (a2_ s)=a2_ s:=bj_ _
 have hd:=h4_ (by omega) s5 (by decide) s4
 have hC:=cB_all
 simp only[List.all_eq_true,List.mem_range] at hC
 obtain⟨out,o1,o2,o3⟩:=lz_ 9 9 _ _ 140168 140172 140172 20000000 (primP s) (a2_ s) [primP s] (hC (trimQ s).length (by omega) (a2_ s).length hdl) hpn (by rw[hdt]) rfl p1 p2 hd.2 hd.1 (by decide) (by decide) (by decide) (by omega) (by omega)
 have hmx:=mxL_le s5 (by decide)
 have hmul:=Nat.mul_le_mul (show s.length+4≤11 by omega) hmx
 have hst':kt_ 9 s=some out:=by
  unfold kt_
  rw[if_pos ⟨f7_ s5 (by decide),⟨by omega,by omega⟩,s2⟩]
  exact o1
 have hall:∀q∈out,nz q∧q.length≤7∧bdL q 20000000:=fun q hq=>by
  rcases o3 q hq with h|⟨a,b,d⟩
  rw[List.mem_singleton.1 h]
  exact⟨d1,by omega,fun x hx=>Nat.le_trans (p1 x hx) (by decide)⟩
  exact⟨a,by omega,d⟩
 rw[List.length_singleton] at o2
 have hok:okCnt ⟨s,out,chL (out.map sgI) 0 0⟩:=⟨fun q hq=>⟨(hall q hq).1,by have:=(hall q hq).2.1;omega⟩,by show out.length≤_;omega,rfl⟩
 refine⟨⟨s,out,chL (out.map sgI) 0 0⟩,?_,hok,by show out.length≤_;omega,hall,s2,s3,s5⟩
 unfold eS_
 rw[s1,Option.bind_some,hst',Option.bind_some,if_pos hok]
def gsz:Nat→List Rat→List Rat→Nat→Prop
 |0,_,_,_=>False
 |f+1,p,q,B=>bdL p B∧(nz q→bdL q B∧gsz f q (bd_ (divP p q).2) B)
theorem hG_top{f m n s t X:Nat}(h:hG f m n s t X=true)(h0:n≠0):t≤X:=by
 cases f with
 |zero=>cases h
 |succ f=>
  rw[hG,if_neg h0] at h
  simp only[Bool.and_eq_true,decide_eq_true_eq,List.all_eq_true,List.mem_range] at h
  have:=h.2 0 (by omega)
  cases f with
  |zero=>cases this
  |succ f=>
   rw[hG,if_pos rfl] at this
   exact of_decide_eq_true this
theorem pH_:∀f m n s t X (p q:List Rat),hG f m n s t X=true→(trimQ p).length=m→(trimQ q).length=n→bdL p s→bdL q t→Ht p s→Ht q t→1≤s→1≤t→s≤X→gsz f p q X
 |0,_,_,_,_,_,_,_,h,_,_,_,_,_,_,_,_,_=>by cases h
 |f+1,m,n,s,t,X,p,q,h,hm,hn,hp,hq,kp,kq,hs,ht,hX=>by
  have htop:=hG_top h
  rw[hG] at h
  refine⟨fun x hx=>Nat.le_trans (hp x hx) hX,fun hq0=>?_⟩
  have h0:n≠0:=by have:=List.length_pos_iff.2 hq0;omega
  have htX:=htop h0
  rw[if_neg h0] at h
  simp only[Bool.and_eq_true,decide_eq_true_eq,List.all_eq_true,List.mem_range] at h
  obtain⟨hL,hk⟩:=h
  have hd:=(j4_ kp kq hq0).2
  rw[hm,hn] at hd
  obtain⟨b1,b2⟩:=hd.monic (by omega)
  have hkn:(trimQ (divP p q).2).length< n:=by rw[←hn];exact(eQ_ p q hq0).2
  have hmn:(trimQ (bd_ (divP p q).2)).length=(trimQ (divP p q).2).length:=by
   by_cases hz:trimQ (divP p q).2=[]
   unfold bd_;rw[if_pos hz,hz];rfl
   unfold bd_;rw[if_neg hz]
   exact hk_ fun e=>by have:=Rat.div_mul_cancel (a:=1) (b9_ hz);rw[e] at this;grind
  exact⟨fun x hx=>Nat.le_trans (hq x hx) htX,pH_ f n _ t _ X q _ (hk _ hkn) hn hmn hq b1 kq b2 ht (by omega) htX⟩
structure CN (p:List Rat)(c:Cnt):Prop where
 np:nz p
 pl:p.length≤7
 pb:bdL p 20
 hc:eS_ 9 p=some c
 ok:okCnt c
 cl:c.ch.length≤8
 all:∀q∈c.ch,nz q∧q.length≤7∧bdL q 20000000
 sn:nz c.p
 sl:c.p.length≤7
 sb:bdL c.p 140168
 sz:gsz 9 p (a2_ p) 20000
 gb:∀g,gcdM 9 p (a2_ p)=some g→bdL g 20000∧g.length≤1000
theorem CN.ex{p:List Rat}(np:nz p)(hl:p.length≤7)(hb:bdL p 20):∃c,CN p c:=by
 have htl:=a9_ p
 obtain⟨c,h1,h2,h3,h4,h5,h6,h7⟩:=lp_ np (by omega) (by omega) hb
 have hH:Ht p 161:=(Ht.of (s:=20) (p:=trimQ p) fun q hq=>hb q (bk_ hq)).untrim.mono (by omega)
 have hlp:=List.length_pos_iff.2 np
 have hdl:=h5_ np
 have hdt:trimQ (a2_ p)=a2_ p:=bj_ _
 have hd0:=h4_ (by omega) hb (by decide) hH
 have hd:bdL (a2_ p) 165∧Ht (a2_ p) 165:=⟨fun x hx=>Nat.le_trans (hd0.1 x hx) (by decide),hd0.2⟩
 have hg:=hG_all
 simp only[List.all_eq_true,List.mem_range] at hg
 have hG:=hg (trimQ p).length (by omega) (a2_ p).length hdl
 have hb':bdL p 161:=fun x hx=>Nat.le_trans (hb x hx) (by decide)
 refine⟨c,np,hl,hb,h1,h2,h3,h4,h5,h6,h7,pH_ 9 _ _ 161 165 20000 p (a2_ p) hG rfl (by rw[hdt]) hb' hd.1 hH hd.2 (by decide) (by decide) (by decide),fun g hgm=>?_⟩
 obtain⟨g',g1,g2,g3,g4⟩:=l5_ 9 _ _ 161 165 20000 p (a2_ p) hG rfl (by rw[hdt]) hb' hd.1 hH hd.2 (by decide) (by decide) (by omega) (by omega) (by decide)
 rw[g1] at hgm
 cases hgm
 exact⟨g4,g2⟩
theorem CN.upto{p:List Rat}{c:Cnt}(h:CN p c){x:Rat}(hx:qs x≤1000000):okUp c x:=⟨h.ok,fun q hq=>by
 obtain⟨_,a,b⟩:=h.all q hq
 have:=mxL_le b (by decide)
 have h2:=Nat.mul_le_mul a (show mxL q+qs x+1≤21000001 by omega)
 exact⟨by omega,by omega⟩⟩
theorem CN.below{p:List Rat}{c:Cnt}(h:CN p c){x:Rat}(hx:qs x≤1000000):okBe c x:=⟨h.upto hx,by
 have:=mxL_le h.sb (by decide)
 have h2:=Nat.mul_le_mul h.sl (show mxL c.p+qs x+1≤21000001 by omega)
 have h3:=h.sl
 exact⟨by omega,by omega⟩⟩
def lag(v:List Rat):Nat→Rat
 |0=>0
 |m+1=>coP v m
theorem ej_(p:List Rat):(aI_ p).length≤p.length+1:=by
 have:=a9_ (tabP (p.length+1) fun i=>if i=0 then 0 else coP p (i- 1) / ((i:Nat):Int))
 simp at this
 unfold aI_;omega
theorem subP_len(p q:List Rat):(subP p q).length≤max p.length q.length:=by
 have h1:=f9_ p (aN_ q (-1))
 have h2:=bW_ q (-1)
 unfold subP;omega
theorem dU_{l:List Rat}{a b:Nat}(h:bdL l a)(hab:a≤b):bdL l b:=fun q hq=>Nat.le_trans (h q hq) hab
theorem bd_co'{p:List Rat}{s:Nat}(h:bdL p s)(hs:1≤s):∀i,qs (coP p i)≤s:=fun i=>bQ_ h hs i
theorem oA_{p:List Rat}{k:Rat}{s:Nat}(h:bdL p s)(hs:1≤s):bdL (aN_ p k) (s+qs k):=ex_ fun i=>by
 rw[bN_]
 have:=cb_ (coP p i) k
 have:=bd_co' h hs i
 omega
theorem bdL_neg{p:List Rat}{s:Nat}(h:bdL p s)(hs:1≤s):bdL (aN_ p (-1)) s:=ex_ fun i=>by
 rw[bN_,show coP p i* (-1)= -coP p i by grind,fi_]
 exact bd_co' h hs i
theorem nT_{p q:List Rat}{s t:Nat}(hp:bdL p s)(hq:bdL q t)(hs:1≤s)(ht:1≤t):bdL (addP p q) (s+t+1):=ex_ fun i=>by
 rw[dW_]
 have:=gB_ (coP p i) (coP q i)
 have:=bd_co' hp hs i
 have:=bd_co' hq ht i
 omega
theorem bdL_subP{p q:List Rat}{s t:Nat}(hp:bdL p s)(hq:bdL q t)(hs:1≤s)(ht:1≤t):bdL (subP p q) (s+t+1):=nT_ hp (bdL_neg hq ht) hs ht
def shP(i:Nat)(v:List Rat):List Rat:=List.replicate i 0++v
theorem dl_(i:Nat)(v:List Rat):(shP i v).length=i+v.length:=by simp[shP]
theorem mJ_(i:Nat)(v:List Rat):shP (i+1) v=0::shP i v:=by simp[shP,List.replicate_succ]
theorem j3_(v:List Rat)(x:Rat):∀i,evalP (shP i v) x=evalP v x* x^ i
 |0=>by simp[shP]
 |i+1=>by
  rw[mJ_,aF_,j3_ v x i,Rat.pow_succ]
  grind
theorem h9_(v:List Rat)(i n:Nat):coP (shP i v) n=if n< i then 0 else coP v (n- i):=by
 induction i generalizing n with
 |zero=>simp[shP]
 |succ i ih=>
  rw[mJ_]
  cases n with
  |zero=>rw[cu_,if_pos (by omega)]
  |succ n=>
   rw[bS_,ih,Nat.add_sub_add_right]
   by_cases h:n< i
   rw[if_pos h,if_pos (by omega)]
   rw[if_neg h,if_neg (by omega)]
def mR(p q:List Rat):Nat→List Rat
 |0=>[]
 |n+1=>addP (mR p q n) (shP n (aN_ p (coP q n)))
theorem nu_(p q:List Rat)(x:Rat):∀n,n≤q.length→evalP (mR p q n) x=evalP p x* evalP (q.take n) x
 |0,_=>by simp[mR,aX_]
 |n+1,h=>by
  rw[mR,ck_,nu_ p q x n (by omega),j3_,a5_,c1_ q x n (by omega)]
  grind
theorem trim_mR(p q:List Rat):∀n,trimQ (mR p q n)=mR p q n
 |0=>rfl
 |n+1=>bj_ _
theorem oN_(p q:List Rat):trimQ (mulP p q)=mulP p q:=by
 unfold mulP
 split
 rfl
 exact bj_ _
theorem kP_(p q:List Rat):mR p q q.length=mulP p q:=by
 rw[←trim_mR,←oN_]
 refine j2_ fun x=>?_
 rw[nu_ p q x _ (Nat.le_refl _),List.take_length,bh_]
theorem pv_(p q:List Rat):∀n,(mR p q n).length≤n+p.length
 |0=>Nat.zero_le _
 |n+1=>by
  have h1:=pv_ p q n
  have h2:=f9_ (mR p q n) (shP n (aN_ p (coP q n)))
  have h3:=bW_ p (coP q n)
  rw[dl_] at h2
  rw[mR]
  omega
theorem mR_bd{p q:List Rat}{s t:Nat}(hp:bdL p s)(hq:bdL q t)(hs:1≤s)(ht:1≤t):∀n,bdL (mR p q n) (n* (s+t+1)+1)
 |0=>fun _ h=>by cases h
 |n+1=>ex_ fun i=>by
  rw[mR,dW_,h9_,Nat.succ_mul]
  have h1:=bd_co' (mR_bd hp hq hs ht n) (by omega) i
  have h2:=bd_co' hq ht n
  have h3:qs (if i< n then 0 else coP (aN_ p (coP q n)) (i- n))≤s+t:=by
   split
   have:qs 0=1:=by decide
   omega
   rw[bN_]
   have:=cb_ (coP p (i- n)) (coP q n)
   have:=bd_co' hp hs (i- n)
   omega
  have:=gB_ (coP (mR p q n) i) (if i< n then 0 else coP (aN_ p (coP q n)) (i- n))
  omega
theorem jE_{p:List Rat}{a:Rat}{d:Nat}:∀n,n≤d→mR p (shP d [a]) n=[]
 |0,_=>rfl
 |n+1,h=>by
  rw[mR,jE_ n (by omega)]
  refine trim_nil_iff.2 fun i=>?_
  have h1:coP (shP d [a]) n=0:=by rw[h9_,if_pos (by omega)]
  have h2:coP (tabP (max ([]:List Rat).length (shP n (aN_ p (coP (shP d [a]) n))).length) fun i=>coP [] i+coP (shP n (aN_ p (coP (shP d [a]) n))) i) i=coP [] i+coP (shP n (aN_ p (coP (shP d [a]) n))) i:=by
   rw[←bs_];exact dW_ _ _ i
  rw[h2,fA_,h9_,bN_,h1]
  split <;> grind
theorem gh_{p:List Rat}{a:Rat}{d s:Nat}(hp:bdL p s)(hs:1≤s)(n:Nat)(hn:n≤d+1):bdL (mR p (shP d [a]) n) (s+qs a+2):=by
 by_cases h:n≤d
 rw[jE_ n h];exact fun _ h=>by cases h
 have:n=d+1:=by omega
 subst this
 refine ex_ fun i=>?_
 rw[mR,dW_,jE_ d (Nat.le_refl _),fA_,Rat.zero_add,h9_]
 split
 have:qs 0=1:=by decide
 omega
 rw[bN_,h9_,if_neg (by omega),Nat.sub_self,cu_]
 have:=cb_ (coP p (i- d)) a
 have:=bd_co' hp hs (i- d)
 omega
theorem coP_mono(d:List Rat)(a:Rat)(k j:Nat):coP (mulP d (shP k [a])) j=if j< k then 0 else coP d (j- k) * a:=by
 have e:mR d (shP k [a]) (shP k [a]).length=mulP d (shP k [a]):=kP_ _ _
 rw[←e,show(shP k [a]).length=k+1 by rw[dl_];rfl,mR,dW_,jE_ k (Nat.le_refl _),fA_,Rat.zero_add,h9_,bN_,h9_,if_neg (Nat.lt_irrefl k),Nat.sub_self,cu_]
theorem m7_{v:List Rat}{n:Nat}(h:trimQ v=v)(hn:v.length=n+1):coP v n=leadP v:=by
 have:=bG_ (l:=v) (n:=n) (by rw[h];exact hn)
 rw[h,bc_ (by omega)] at this
 exact Option.some.inj this
theorem step_len{v d:List Rat}(hv:trimQ v=v)(hd:trimQ d=d)(hd0:d≠[])(hl:d.length≤v.length):(subP v (mulP d (shP (v.length- d.length) [leadP v/ leadP d]))).length< v.length:=by
 have hdl:=List.length_pos_iff.2 hd0
 obtain⟨m,hm⟩:∃m,d.length=m+1:=⟨d.length- 1,by omega⟩
 obtain⟨n,hn⟩:∃n,v.length=n+1:=⟨v.length- 1,by omega⟩
 have hld:leadP d≠0:=b9_ (by rw[hd];exact hd0)
 have key:∀j,n≤j→coP (subP v (mulP d (shP (v.length- d.length) [leadP v/ leadP d]))) j=0:=fun j hj=>by
  rw[j7_,coP_mono,if_neg (by omega)]
  by_cases h:j=n
  subst h
  rw[m7_ hv hn,show j- (v.length- d.length)=m by omega,m7_ hd hm]
  grind
  rw[cs_ (p:=v) (by omega),cs_ (p:=d) (by omega)]
  grind
 have h1:=gy_ key
 have h2:trimQ (subP v (mulP d (shP (v.length- d.length) [leadP v/ leadP d])))=subP v (mulP d (shP (v.length- d.length) [leadP v/ leadP d])):=bj_ _
 rw[h2] at h1
 omega
theorem oM_(p q:List Rat):trimQ (subP p q)=subP p q:=bj_ _
theorem step_bd{v d:List Rat}{b t:Nat}(hv:bdL v b)(hd:bdL d t)(hb:1≤b)(ht:1≤t)(hd0:d≠[])(k:Nat):qs (leadP v/ leadP d)≤b+t∧bdL (mulP d (shP k [leadP v/ leadP d])) (2* t+b+2)∧bdL (subP v (mulP d (shP k [leadP v/ leadP d]))) (2* b+2* t+3):=by
 have h1:=px_ hv hb
 have h2:=px_ hd ht
 have h3:=d1_ (leadP v) (leadP d)
 have h4:bdL (mulP d (shP k [leadP v/ leadP d])) (2* t+b+2):=by
  have:=gh_ (a:=leadP v/ leadP d) (d:=k) hd ht (k+1) (Nat.le_refl _)
  rw[show k+1=(shP k [leadP v/ leadP d]).length by rw[dl_];rfl,kP_] at this
  exact dU_ this (by omega)
 exact⟨by omega,h4,dU_ (bdL_subP hv h4 hb (by omega)) (by omega)⟩
theorem bdL_sh{v:List Rat}{b:Nat}(h:bdL v b)(hb:1≤b)(k:Nat):bdL (shP k v) b:=fun q hq=>by
 rcases List.mem_append.1 hq with h'|h'
 rw[List.eq_of_mem_replicate h']
 have:qs 0=1:=by decide
 omega
 exact h q h'
theorem trim_div(p q:List Rat):trimQ (divP p q).1=(divP p q).1∧trimQ (divP p q).2=(divP p q).2:=⟨bj_ _,bj_ _⟩
def powP(p:List Rat):Nat→List Rat
 |0=>dB_ 1
 |n+1=>mulP (powP p n) p
def pB(L:Nat):Nat→Nat
 |0=>1
 |n+1=>(n* L+1) * (pB L n+257)+1
theorem lX_(p q:List Rat):(mulP p q).length≤p.length+q.length:=by
 have h:=pv_ p q q.length
 rw[kP_] at h
 omega
theorem fN_(p:List Rat):∀n,(powP p n).length≤n* p.length+1
 |0=>by
  have h:=a9_ [1]
  have e:([1]:List Rat).length=1:=rfl
  show(trimQ [1]).length≤_
  omega
 |n+1=>by
  have h1:=fN_ p n
  have h2:=lX_ (powP p n) p
  rw[powP,Nat.succ_mul]
  omega
theorem pB_pos(L:Nat):∀n,1≤pB L n
 |0=>Nat.le_refl _
 |n+1=>Nat.le_add_left _ _
theorem ph_{p:List Rat}(h:bdL p 256):∀n,bdL (powP p n) (pB p.length n)
 |0=>fun q hq=>by
  have:=bk_ (l:=[1]) hq
  rw[List.mem_singleton.1 this]
  show qs 1≤1
  decide
 |n+1=>fun q hq=>by
  have h1:=po_ (ph_ h n) h (pB_pos _ _) (by decide) q hq
  have h2:=Nat.mul_le_mul_right (pB p.length n+256+1) (fN_ p n)
  show qs q≤(n* p.length+1) * (pB p.length n+257)+1
  obtain⟨a,ha⟩:∃a,a=(powP p n).length* (pB p.length n+256+1):=⟨_,rfl⟩
  obtain⟨b,hb⟩:∃b,b=(n* p.length+1) * (pB p.length n+256+1):=⟨_,rfl⟩
  rw[←ha] at h1 h2
  rw[←hb] at h2
  rw[show pB p.length n+257=pB p.length n+256+1 from rfl,←hb]
  omega
def ofQ(p m:List Rat):Nat→Rat
 |0=>0
 |n+1=>ofQ p m n+coP p n* coP m n
theorem kK_{p m:List Rat}{s t:Nat}(hp:bdL p s)(hm:bdL m t)(hs:1≤s)(ht:1≤t):∀n,qs (ofQ p m n)≤n* (s+t+1)+1
 |0=>by rw[Nat.zero_mul];exact(by decide:qs 0≤0+1)
 |n+1=>by
  have h1:=kK_ hp hm hs ht n
  have h2:=gB_ (ofQ p m n) (coP p n* coP m n)
  have h3:=cb_ (coP p n) (coP m n)
  have h4:=bQ_ hp hs n
  have h5:=bQ_ hm ht n
  rw[ofQ,Nat.succ_mul];omega
def gK(f:List Rat):Nat→List Rat
 |0=>f
 |k+1=>mulP (gK f k) [0,1]
def moQ(f:List Rat)(s:Sp)(k:Nat):Rat:=evalP (aI_ (gK f k)) s.2- evalP (aI_ (gK f k)) s.1
def okMo(f:List Rat)(s:Sp)(k:Nat):Prop:=smL (gK f k)∧(gK f k).length≤1000000∧dy_ (aI_ (gK f k)) s.1∧dy_ (aI_ (gK f k)) s.2∧okMul (gK f k) [0,1]
def sqL(sq:Nat→Rat)(n:Nat):List Rat:=(List.range n).map sq
theorem ed_(sq:Nat→Rat)(n:Nat):sqL sq (n+1)=sqL sq n++[sq n]:=by simp[sqL,List.range_succ]
@[simp] theorem gc_ (sq:Nat→Rat)(n:Nat):(sqL sq n).length=n:=by simp[sqL]
theorem he_(p:List Rat)(h:trimQ p≠[]):∀n,trimQ (List.replicate n (0:Rat)++p)=List.replicate n 0++trimQ p
 |0=>rfl
 |n+1=>by
  rw[List.replicate_succ,List.cons_append,bV_,he_ p h n,if_neg (by simp[h]),List.cons_append]
theorem gz_(p:List Rat)(h:trimQ p=[]):∀n,trimQ (List.replicate n (0:Rat)++p)=[]
 |0=>h
 |n+1=>by
  rw[List.replicate_succ,List.cons_append,bV_,gz_ p h n];rfl
theorem hd_(p:List Rat)(n:Nat)(N:Nat)(h:n+(trimQ p).length≤N):(trimQ (List.replicate n (0:Rat)++p)).length≤N:=by
 by_cases e:trimQ p=[]
 rw[gz_ p e];exact Nat.zero_le _
 rw[he_ p e];simp;omega
def tmQ(p m:List Rat)(k:Nat):Rat:=ofQ (trimQ (List.replicate k 0++p)) m (trimQ (List.replicate k (0:Rat)++p)).length
theorem qO_{p:List Rat}{s:Nat}(h:bdL p s)(hs:1≤s)(n:Nat):bdL (List.replicate n 0++p) s:=fun q hq=>by
 rcases List.mem_append.1 hq with hq|hq
 rw[List.eq_of_mem_replicate hq]
 have:qs 0=1:=by decide
 omega
 exact h q hq
def ofP(m p:List Rat):Rat:=ofQ (trimQ p) m (trimQ p).length
def okOf(m p:List Rat):Prop:=p.length≤1000000∧(trimQ p).length≤m.length∧(p.length+2) * (mxL p+mxL m+1)≤137438953472
instance (m p:List Rat):Decidable (okOf m p):=inferInstanceAs (Decidable (_∧_∧_))
def ldN(m p:List Rat):Rat:=ofP m (mulP p p)
def ldA(m p:List Rat):Rat:=ofP m (mulP (mulP p p) [0,1]) / ldN m p
def ldr(m:List Rat):Nat→List Rat×List Rat×Rat
 |0=>([1],[],0)
 |k+1=>(subP (mulP (ldr m k).1 [-ldA m (ldr m k).1,1]) (aN_ (ldr m k).2.1 (if k=0 then 0 else ldN m (ldr m k).1/ (ldr m k).2.2)),(ldr m k).1,ldN m (ldr m k).1)
def ldB(m:List Rat)(k:Nat):Rat:=if k=0 then 0 else ldN m (ldr m k).1/ (ldr m k).2.2
def ldAk(m:List Rat)(k:Nat):Rat:=ldA m (ldr m k).1
def okLd(m:List Rat)(k:Nat):Prop:=
 okMul (ldr m k).1 (ldr m k).1∧okOf m (mulP (ldr m k).1 (ldr m k).1)∧0< ldN m (ldr m k).1∧okMul (mulP (ldr m k).1 (ldr m k).1) [0,1]∧okOf m (mulP (mulP (ldr m k).1 (ldr m k).1) [0,1])∧
 qs (ofP m (mulP (mulP (ldr m k).1 (ldr m k).1) [0,1]))+qs (ldN m (ldr m k).1)≤549755813888∧qs (ldN m (ldr m k).1)+qs (ldr m k).2.2≤549755813888∧
 okMul (ldr m k).1 [-ldAk m k,1]∧(∀q∈(ldr m k).2.1,sm q)∧sm (ldB m k)∧(∀q∈mulP (ldr m k).1 [-ldAk m k,1],sm q)∧(∀q∈aN_ (ldr m k).2.1 (ldB m k),sm q)∧
 (ldr m k).2.1.length≤1099511627776∧(mulP (ldr m k).1 [-ldAk m k,1]).length≤1099511627776∧(aN_ (ldr m k).2.1 (ldB m k)).length≤1099511627776
instance (m:List Rat) (k:Nat):Decidable (okLd m k):=by unfold okLd;infer_instance
def okBs(g nx a c:List Rat):Prop:=okDiv g nx∧okMul (divP g nx).1 c∧(∀q∈a,sm q)∧(∀q∈mulP (divP g nx).1 c,sm q)∧a.length≤1099511627776∧(mulP (divP g nx).1 c).length≤1099511627776
instance (g nx a c:List Rat):Decidable (okBs g nx a c):=by unfold okBs;infer_instance
def bzL:Nat→List Rat→List Rat→List Rat→List Rat→Option (List Rat×List Rat)
 |0,_,_,_,_=>none
 |f+1,g,nx,a,c=>if trimQ nx=[] then some (g,a) else if okBs g nx a c∧nx.length≤1099511627776 then bzL f nx (divP g nx).2 c (subP a (mulP (divP g nx).1 c)) else none
def bzG(g:List Rat):List Rat:=aN_ g (((1:Int):Rat) / leadP g)
def bzA(q g a:List Rat):List Rat:=(divP (aN_ a (((1:Int):Rat) / leadP g)) (divP q (bzG g)).1).2
def bzB(p q g a:List Rat):List Rat:=(divP (subP (bzG g) (mulP (bzA q g a) p)) q).1
def okBz(p q g a:List Rat):Prop:=
 trimQ g≠[]∧g.length≤1099511627776∧a.length≤1099511627776∧(∀x∈g,sm x)∧(∀x∈a,sm x)∧qs (leadP g)≤68719476736∧okDiv q (bzG g)∧trimQ (bzG g)≠[]∧
 okDiv (aN_ a (((1:Int):Rat) / leadP g)) (divP q (bzG g)).1∧trimQ (divP q (bzG g)).1≠[]∧okMul (bzA q g a) p∧(∀x∈bzG g,sm x)∧(∀x∈mulP (bzA q g a) p,sm x)∧
 (bzG g).length≤1099511627776∧(mulP (bzA q g a) p).length≤1099511627776∧okDiv (subP (bzG g) (mulP (bzA q g a) p)) q
instance (p q g a:List Rat):Decidable (okBz p q g a):=by unfold okBz;infer_instance
def tpV(p m:List Rat)(i:Nat):Nat→Rat
 |0=>0
 |j+1=>if i< j then tpV p m i j+coP p j* coP m (j- 1- i) else tpV p m i j
def tpI(p m:List Rat)(j i0 i:Nat):Rat:=if i< i0 then tpV p m i (j+1) else tpV p m i j
theorem tpI_0(p m:List Rat)(j:Nat):tpI p m j 0=fun i=>tpV p m i j:=rfl
theorem tpI_e(p m:List Rat)(j:Nat):tpI p m j j=fun i=>tpV p m i (j+1):=by
 funext i
 unfold tpI
 by_cases h:i< j
 rw[if_pos h]
 rw[if_neg h,tpV,if_neg h]
theorem jo_{d i:Nat}(f:Nat→Rat)(h:i< d):(tabP d f)[i]?=some (f i):=by simp[tabP,h]
theorem tabP_set(d i:Nat)(f g:Nat→Rat)(h:i< d)(hg:∀x,x≠i→f x=g x):(tabP d f).set i (g i)=tabP d g:=by
 refine List.ext_getElem? fun x=>?_
 rw[List.getElem?_set]
 by_cases e:i=x
 subst e;simp[tabP,h]
 rw[if_neg e]
 by_cases hx:x< d
 rw[jo_ f hx,jo_ g hx,hg x (fun e2=>e e2.symm)]
 simp[tabP,hx]
theorem tpI_set(p m:List Rat)(d j i:Nat)(hi:i< j)(hj:j≤d):(tabP d (tpI p m j i)).set i (tpV p m i j+coP p j* coP m (j- 1- i))=tabP d (tpI p m j (i+1)):=by
 have e:tpV p m i j+coP p j* coP m (j- 1- i)=tpI p m j (i+1) i:=by unfold tpI;rw[if_pos (Nat.lt_succ_self i),tpV,if_pos hi]
 rw[e]
 refine tabP_set d i _ _ (by omega) fun x hx=>?_
 unfold tpI
 by_cases h:x< i
 rw[if_pos h,if_pos (by omega)]
 rw[if_neg h,if_neg (by omega)]
theorem tpV_bd{p m:List Rat}{s t:Nat}(hp:bdL p s)(hm:bdL m t)(hs:1≤s)(ht:1≤t)(i:Nat):∀j,qs (tpV p m i j)≤j* (s+t+1)+1
 |0=>by rw[Nat.zero_mul];exact(by decide:qs 0≤0+1)
 |j+1=>by
  have h1:=tpV_bd hp hm hs ht i j
  have h2:=gB_ (tpV p m i j) (coP p j* coP m (j- 1- i))
  have h3:=cb_ (coP p j) (coP m (j- 1- i))
  have h4:=bQ_ hp hs j
  have h5:=bQ_ hm ht (j- 1- i)
  rw[tpV,Nat.succ_mul]
  split <;> omega
def tpQ(p m:List Rat):List Rat:=tabP (p.length- 1) fun i=>tpV p m i p.length
theorem oS_(d:Nat)(p m:List Rat):tabP d (fun i=>tpV p m i 0)=List.replicate d 0:=by
 show(List.range d).map (fun _=>(0:Rat))=_
 rw[List.map_const',List.length_range]
def apR(p w f:List Rat):List Rat:=(divP (mulP w (divP f p).2) p).2
def nwA(T:List Rat)(n:Nat)(out:List Rat)(k:Nat):Nat→Rat
 |0=>coP T (n- k) * ((k:Int):Rat)
 |i+1=>nwA T n out k i+coP T (n- (i+1)) * coP out (k- (i+1))
def suL(T:List Rat)(n:Nat):Nat→List Rat
 |0=>[((n:Int):Rat)]
 |k+1=>suL T n k++[-(nwA T n (suL T n k) (k+1) k)]
theorem dY_(T:List Rat)(n:Nat):∀k,(suL T n k).length=k+1
 |0=>rfl
 |k+1=>by rw[suL,List.length_append,dY_ T n k];rfl
def okSu(T:List Rat)(n k:Nat):Prop:=qs (coP T (n- (k+1)))+qs (((k+1:Nat):Int):Rat)≤549755813888∧
 ∀i,i< k→qs (coP T (n- (i+1)))+qs (coP (suL T n k) (k+1- (i+1)))≤549755813888∧qs (nwA T n (suL T n k) (k+1) i)+qs (coP T (n- (i+1)) * coP (suL T n k) (k+1- (i+1)))≤549755813888
def enM(e:Rat):List Rat:=[-e,((1:Int):Rat)]
def krS(e m:List Rat)(k:Nat):Nat→Rat
 |0=>0
 |j+1=>krS e m k j+coP e j* coP m (j+k)
def krE(m:List Rat)(n:Nat):Nat→List Rat
 |0=>List.replicate (n+1) 0++[((1:Int):Rat)]
 |k+1=>(krE m n k).set (n- k) (-(krS (krE m n k) m k (n+2) / coP m n))
theorem e6_(m:List Rat)(n:Nat):∀k,(krE m n k).length=n+2
 |0=>by simp[krE]
 |k+1=>by rw[krE,List.length_set,e6_ m n k]
def okKr(m:List Rat)(n k:Nat):Prop:=(∀j,j< n+2→qs (coP (krE m n k) j)+qs (coP m (j+k))≤549755813888∧qs (krS (krE m n k) m k j)+qs (coP (krE m n k) j* coP m (j+k))≤549755813888)∧
 qs (krS (krE m n k) m k (n+2))+qs (coP m n)≤549755813888
theorem dvE_add(p q:List Rat)(x:Rat):dvE (addP p q) x=dvE p x+dvE q x:=by
 rw[←nA_];exact mm_ (fun i=>by rw[dW_,c7_]) x
theorem qr_(a x:Rat):dvE (dB_ a) x=0:=by
 show dvE (trimQ [a]) x=0
 rw[mm_ (q:=[a]) (bs_ [a]) x,ce_,aX_]
 show(0:Rat)+0* x=0
 grind
theorem nz_(q:List Rat)(x:Rat):∀p,dvE (compP q p) x=dvE p (evalP q x) * dvE q x
 |[]=>by show(0:Rat)=0* _;grind
 |a::l=>by
  rw[compP,dvE_add,qr_,dvE_mul,nz_ q x l,c2_,ce_];grind
theorem cT_(u v x:Rat):evalP [u,v] x=u+v* x:=by rw[aF_,aF_,aX_];grind
theorem dvE_uv(u v x:Rat):dvE [u,v] x=v:=by
 rw[ce_,ce_,aF_,aX_]
 show(0* x+v)+(0+(0:Rat) * x) * x=v
 grind
def itP(a b:Rat)(p:List Rat):Rat:=evalP (aI_ p) b- evalP (aI_ p) a
theorem gD_{p q:List Rat}(h:∀i,coP p i=coP q i)(x:Rat):evalP (aI_ p) x=evalP (aI_ q) x:=
 cA_ (fun i=>by rw[bE_,bE_,h]) x
theorem hL_{p q:List Rat}(h:Eqv p q)(a b:Rat):itP a b p=itP a b q:=by
 have:=trim_iff.1 (eqv_trim.1 h)
 unfold itP;rw[gD_ this,gD_ this]
theorem pE_(a b:Rat)(p q:List Rat):itP a b (addP p q)=itP a b p+itP a b q:=by
 have e:∀x,evalP (aI_ (addP p q)) x=evalP (aI_ p) x+evalP (aI_ q) x:=fun x=>by
  rw[←ck_]
  refine cA_ (fun i=>?_) x
  rw[dW_ (aI_ p),bE_,bE_,bE_,dW_]
  by_cases h:i=0
  rw[if_pos h,if_pos h,if_pos h];grind
  rw[if_neg h,if_neg h,if_neg h];grind
 unfold itP;rw[e,e];grind
theorem ei_(a b:Rat)(p:List Rat)(k:Rat):itP a b (aN_ p k)=itP a b p* k:=by
 have e:∀x,evalP (aI_ (aN_ p k)) x=evalP (aI_ p) x* k:=fun x=>by
  rw[←a5_]
  refine cA_ (fun i=>?_) x
  rw[bN_ (aI_ p),bE_,bE_,bN_]
  by_cases h:i=0
  rw[if_pos h,if_pos h];grind
  rw[if_neg h,if_neg h];grind
 unfold itP;rw[e,e];grind
theorem ml_(p:List Rat)(x:Rat):dvE (aI_ p) x=evalP p x:=by
 rw[←gK_,←bw_,h6_,bw_]
theorem nQ_pos'(n:Nat):(((n+1:Nat):Int):Rat)≠0:=fun e=>by
 have h:(((n+1:Nat):Int):Rat)=((0:Int):Rat):=e
 have:=Rat.intCast_inj.1 h
 omega
theorem eH_(G:List Rat)(y:Rat):evalP (aI_ (a2_ G)) y=evalP G y- coP G 0:=by
 rw[show evalP G y- coP G 0=evalP (subP G (dB_ (coP G 0))) y by rw[cj_,hY_]]
 refine cA_ (fun i=>?_) y
 rw[bE_,j7_,qC_]
 cases i with
 |zero=>rw[if_pos rfl,if_pos rfl];grind
 |succ i=>
  rw[if_neg (by omega),if_neg (by omega),cD_,Nat.add_sub_cancel,Rat.mul_div_cancel (nQ_pos' i)]
  grind
theorem pD_(c r:Rat)(p:List Rat):itP (c- r) (c+r) p=r* itP (-1) 1 (compP [c,r] p):=by
 have e:Eqv (a2_ (compP [c,r] (aI_ p))) (aN_ (compP [c,r] p) r):=fun x=>by
  rw[gK_,nz_,ml_,a5_,c2_,dvE_uv]
 have h1:=ei_ (-1) 1 (compP [c,r] p) r
 rw[←hL_ e] at h1
 have h2:itP (-1) 1 (a2_ (compP [c,r] (aI_ p)))=itP (c- r) (c+r) p:=by
  unfold itP
  rw[eH_,eH_,c2_,c2_,cT_,cT_,show c+r* 1=c+r by grind,show c+r* -1=c- r by grind]
  grind
 rw[←h2,h1];grind
theorem jI_(x:Rat):∀n,evalP (gK [1] n) x=x^ n
 |0=>by rw[Rat.pow_zero];show evalP [1] x=1;rw[aF_,aX_];grind
 |n+1=>by rw[gK,bh_,jI_ x n,cT_,Rat.pow_succ];grind
theorem ofQ_it{a b:Rat}{m:List Rat}{N:Nat}(hm:∀i,i< N→coP m i=itP a b (gK [1] i))(p:List Rat):∀n,n≤N→n≤p.length→ofQ p m n=itP a b (p.take n)
 |0,_,_=>by
  show(0:Rat)=itP a b []
  unfold itP
  have e:∀x,evalP (aI_ []) x=0:=fun x=>d4_ (fun i=>by
   rw[bE_];split
   rfl
   show(0:Rat) / _=0;grind) x
  rw[e,e];grind
 |n+1,h1,h2=>by
  rw[ofQ,ofQ_it hm p n (by omega) (by omega),hm n (by omega),hL_ (p:=p.take (n+1)) (q:=addP (p.take n) (aN_ (gK [1] n) (coP p n))) (fun x=>by
   rw[c1_ _ _ _ (by omega),ck_,a5_,jI_];grind),pE_,ei_]
  grind
theorem kL_{a b:Rat}{m:List Rat}{N:Nat}(hm:∀i,i< N→coP m i=itP a b (gK [1] i)){p:List Rat}(h:(trimQ p).length≤N):ofP m p=itP a b p:=by
 unfold ofP
 rw[ofQ_it hm _ _ h (Nat.le_refl _),List.take_length]
 exact hL_ (fun x=>bw_ p x) a b
theorem hB_(p q:List Rat)(n:Nat)(hp:p.length≤n+1)(hq:q.length≤n+1):(mulP p q).length≤2* n+1:=by
 by_cases h:p=[]
 subst h;unfold mulP;simp
 by_cases h2:q=[]
 subst h2;unfold mulP;simp
 have:=hC_ p q h
 omega
theorem mulP_line_len'(v:List Rat)(u w:Rat):(mulP v [u,w]).length≤v.length+1:=by
 by_cases h:v=[]
 subst h;unfold mulP;simp
 have:=hC_ v [u,w] h;simpa using this
theorem lZ_(m:List Rat):∀k,(ldr m k).1.length≤k+1∧(ldr m k).2.1.length≤k+1
 |0=>⟨by simp[ldr],by simp[ldr]⟩
 |k+1=>by
  obtain⟨h1,h2⟩:=lZ_ m k
  refine⟨?_,Nat.le_trans h1 (by omega)⟩
  show(subP (mulP (ldr m k).1 [-ldA m (ldr m k).1,1]) (aN_ (ldr m k).2.1 (if k=0 then 0 else ldN m (ldr m k).1/ (ldr m k).2.2))).length≤_
  have a:=subP_len (mulP (ldr m k).1 [-ldA m (ldr m k).1,1]) (aN_ (ldr m k).2.1 (if k=0 then 0 else ldN m (ldr m k).1/ (ldr m k).2.2))
  have b:=bW_ (ldr m k).2.1 (if k=0 then 0 else ldN m (ldr m k).1/ (ldr m k).2.2)
  have c:(mulP (ldr m k).1 [-ldA m (ldr m k).1,1]).length≤k+1+1:=by
   by_cases h:(ldr m k).1=[]
   rw[h];unfold mulP;simp
   have:=hC_ (ldr m k).1 [-ldA m (ldr m k).1,1] h
   simp only[List.length_cons,List.length_nil] at this
   omega
  omega
structure Mv (m m0:List Rat)(c r:Rat)(N:Nat):Prop where
 r0:r≠0
 h:∀i,i< N→coP m i=itP (c- r) (c+r) (gK [1] i)
 h0:∀i,i< N→coP m0 i=itP (-1) 1 (gK [1] i)
theorem Mv.of{m m0:List Rat}{c r:Rat}{N:Nat}(H:Mv m m0 c r N){p q:List Rat}{k:Rat}(hp:(trimQ p).length≤N)(hq:(trimQ q).length≤N)(e:∀y,evalP p (c+r* y)=k* evalP q y):ofP m p=r* k* ofP m0 q:=by
 rw[kL_ H.h hp,kL_ H.h0 hq,pD_,hL_ (p:=compP [c,r] p) (q:=aN_ q k) (fun y=>by rw[c2_,cT_,e,a5_];grind),ei_]
 grind
theorem Mv.ldr{m m0:List Rat}{c r:Rat}{N:Nat}(H:Mv m m0 c r N):∀k,2* k≤N→(∀j,j< k→ldN m0 (ldr m0 j).1≠0)→
    (∀y,evalP (ldr m k).1 (c+r* y)=r^ k* evalP (ldr m0 k).1 y)∧(∀y,evalP (Go.Abs.ldr m k).2.1 (c+r* y) * r=r^ k* evalP (Go.Abs.ldr m0 k).2.1 y)∧(k≠0→(Go.Abs.ldr m k).2.2* r=r^ k* r^ k* (Go.Abs.ldr m0 k).2.2)
 |0,_,_=>⟨fun y=>by rw[Rat.pow_zero];show evalP [1] _=1* evalP [1] y;rw[aF_,aX_,aF_,aX_];grind,fun y=>by rw[Rat.pow_zero];show(0:Rat) * r=1* 0;grind,fun h=>absurd rfl h⟩
 |k+1,hk,hn=>by
  obtain⟨i1,i2,i3⟩:=Mv.ldr H k (by omega) fun j hj=>hn j (by omega)
  have hl:=(lZ_ m k).1
  have hl0:=(lZ_ m0 k).1
  have t1:∀p:List Rat,p.length≤k+1→(trimQ (mulP p p)).length≤N∧(trimQ (mulP (mulP p p) [0,1])).length≤N:=fun p hp=>by
   have a:=hB_ p p k hp hp
   have b:=a9_ (mulP p p)
   have c:=a9_ (mulP (mulP p p) [0,1])
   have d:=mulP_line_len' (mulP p p) 0 1
   omega
  have eN:ldN m (Go.Abs.ldr m k).1=r* (r^ k* r^ k) * ldN m0 (Go.Abs.ldr m0 k).1:=H.of (t1 _ hl).1 (t1 _ hl0).1 fun y=>by rw[bh_,bh_,i1];grind
  have hN0:=hn k (by omega)
  have hrk:r^ k≠0:=pow_ne H.r0 k
  have eA:ldA m (Go.Abs.ldr m k).1=c+r* ldA m0 (Go.Abs.ldr m0 k).1:=by
   have e1:ofP m (mulP (mulP (Go.Abs.ldr m k).1 (Go.Abs.ldr m k).1) [0,1])=r* (r^ k* r^ k) * ofP m0 (addP (aN_ (mulP (Go.Abs.ldr m0 k).1 (Go.Abs.ldr m0 k).1) c) (aN_ (mulP (mulP (Go.Abs.ldr m0 k).1 (Go.Abs.ldr m0 k).1) [0,1]) r)):=
    H.of (t1 _ hl).2 (by
     have a:=f9_ (aN_ (mulP (Go.Abs.ldr m0 k).1 (Go.Abs.ldr m0 k).1) c) (aN_ (mulP (mulP (Go.Abs.ldr m0 k).1 (Go.Abs.ldr m0 k).1) [0,1]) r)
     have b:=bW_ (mulP (Go.Abs.ldr m0 k).1 (Go.Abs.ldr m0 k).1) c
     have d:=bW_ (mulP (mulP (Go.Abs.ldr m0 k).1 (Go.Abs.ldr m0 k).1) [0,1]) r
     have e:=hB_ _ _ k hl0 hl0
     have f:=mulP_line_len' (mulP (Go.Abs.ldr m0 k).1 (Go.Abs.ldr m0 k).1) 0 1
     have g:=a9_ (addP (aN_ (mulP (Go.Abs.ldr m0 k).1 (Go.Abs.ldr m0 k).1) c) (aN_ (mulP (mulP (Go.Abs.ldr m0 k).1 (Go.Abs.ldr m0 k).1) [0,1]) r))
     omega) fun y=>by
      rw[bh_,bh_,i1,cT_,ck_,a5_,a5_,bh_,bh_,bh_,cT_];grind
   have e2:ofP m0 (addP (aN_ (mulP (Go.Abs.ldr m0 k).1 (Go.Abs.ldr m0 k).1) c) (aN_ (mulP (mulP (Go.Abs.ldr m0 k).1 (Go.Abs.ldr m0 k).1) [0,1]) r))=c* ldN m0 (Go.Abs.ldr m0 k).1+r* ofP m0 (mulP (mulP (Go.Abs.ldr m0 k).1 (Go.Abs.ldr m0 k).1) [0,1]):=by
    have hA:=t1 _ hl0
    have a:=f9_ (aN_ (mulP (Go.Abs.ldr m0 k).1 (Go.Abs.ldr m0 k).1) c) (aN_ (mulP (mulP (Go.Abs.ldr m0 k).1 (Go.Abs.ldr m0 k).1) [0,1]) r)
    have b:=bW_ (mulP (Go.Abs.ldr m0 k).1 (Go.Abs.ldr m0 k).1) c
    have d:=bW_ (mulP (mulP (Go.Abs.ldr m0 k).1 (Go.Abs.ldr m0 k).1) [0,1]) r
    have e:=hB_ _ _ k hl0 hl0
    have f:=mulP_line_len' (mulP (Go.Abs.ldr m0 k).1 (Go.Abs.ldr m0 k).1) 0 1
    have g:=a9_ (addP (aN_ (mulP (Go.Abs.ldr m0 k).1 (Go.Abs.ldr m0 k).1) c) (aN_ (mulP (mulP (Go.Abs.ldr m0 k).1 (Go.Abs.ldr m0 k).1) [0,1]) r))
    rw[kL_ H.h0 (by omega),pE_,ei_,ei_]
    unfold ldN
    rw[kL_ H.h0 hA.1,kL_ H.h0 hA.2]
    grind
   unfold ldA
   rw[e1,e2,eN]
   have h1:r* (r^ k* r^ k)≠0:=fun e=>by
    rcases Rat.mul_eq_zero.1 e with e|e
    exact H.r0 e
    rcases Rat.mul_eq_zero.1 e with e|e <;> exact hrk e
   generalize r* (r^ k* r^ k)=z at *
   generalize ldN m0 (Go.Abs.ldr m0 k).1=w at *
   grind
  have eB:(if k=0 then 0 else ldN m (Go.Abs.ldr m k).1/ (Go.Abs.ldr m k).2.2)=r* r* (if k=0 then 0 else ldN m0 (Go.Abs.ldr m0 k).1/ (Go.Abs.ldr m0 k).2.2):=by
   by_cases h:k=0
   rw[if_pos h,if_pos h];grind
   rw[if_neg h,if_neg h,eN]
   have h3:=i3 h
   have h4:(Go.Abs.ldr m0 k).2.2≠0:=by
    cases k with
    |zero=>exact absurd rfl h
    |succ j=>exact hn j (by omega)
   have hr0:=H.r0
   have h5:(Go.Abs.ldr m k).2.2≠0:=fun e=>by
    rw[e] at h3
    have:r^ k* r^ k* (Go.Abs.ldr m0 k).2.2≠0:=fun e=>by
     rcases Rat.mul_eq_zero.1 e with e|e
     rcases Rat.mul_eq_zero.1 e with e|e <;> exact hrk e
     exact h4 e
    grind
   generalize ldN m0 (Go.Abs.ldr m0 k).1=w at *
   generalize (Go.Abs.ldr m0 k).2.2=v at *
   generalize (Go.Abs.ldr m k).2.2=u at *
   generalize r^ k=s at *
   have h6:u=s* s* v/ r:=by rw[←h3];exact(Rat.mul_div_cancel hr0).symm
   rw[h6]
   grind
  refine⟨fun y=>?_,fun y=>?_,fun _=>?_⟩
  show evalP (subP (mulP (Go.Abs.ldr m k).1 [-ldA m (Go.Abs.ldr m k).1,1]) (aN_ (Go.Abs.ldr m k).2.1 _)) _=_* evalP (subP (mulP (Go.Abs.ldr m0 k).1 [-ldA m0 (Go.Abs.ldr m0 k).1,1]) (aN_ (Go.Abs.ldr m0 k).2.1 _)) y
  rw[cj_,cj_,bh_,bh_,a5_,a5_,cT_,cT_,i1,eA,eB,Rat.pow_succ]
  have h2:=i2 y
  generalize evalP (Go.Abs.ldr m k).2.1 (c+r* y)=w at *
  generalize evalP (Go.Abs.ldr m0 k).2.1 y=w0 at *
  generalize (if k=0 then 0 else ldN m0 (Go.Abs.ldr m0 k).1/ (Go.Abs.ldr m0 k).2.2)=B at *
  have:w* (r* r* B)=r^ k* w0* r* B:=by rw[←h2];grind
  rw[this];grind
  show evalP (Go.Abs.ldr m k).1 (c+r* y) * r=_* evalP (Go.Abs.ldr m0 k).1 y
  rw[i1,Rat.pow_succ];grind
  show ldN m (Go.Abs.ldr m k).1* r=_* ldN m0 (Go.Abs.ldr m0 k).1
  rw[eN,Rat.pow_succ];grind
theorem mz_{e:Int}(he:e=1∨e= -1):∀(l:List Int) (t:Int),(t=1∨t= -1)→(∀s∈l,-1≤s∧s≤1)→(t::l).getLast?=some e→chL l 0 t % 2=if t=e then 0 else 1
 |[],t,ht,_,h=>by
  have:t=e:=by simpa using h
  rw[if_pos this];rfl
 |s::l,t,ht,hs,h=>by
  have h0:=hs s (List.mem_cons_self ..)
  by_cases hz:s≠0
  have ih:=mz_ he l s (by omega) (fun x hx=>hs x (List.mem_cons_of_mem _ hx)) (by rwa[List.getLast?_cons_cons] at h)
  rw[chL,if_pos hz,ie_]
  by_cases h1:s=e
  rw[if_pos h1] at ih
  by_cases h2:s= -t
  rw[if_pos h2,if_neg (by omega)];omega
  rw[if_neg h2,if_pos (by omega)];omega
  rw[if_neg h1] at ih
  by_cases h2:s= -t
  rw[if_pos h2,if_pos (by omega)];omega
  rw[if_neg h2,if_neg (by omega)];omega
  have hz0:s=0:=by omega
  rw[chL,if_neg hz]
  refine mz_ he l t ht (fun x hx=>hs x (List.mem_cons_of_mem _ hx)) ?_
  rw[List.getLast?_cons_cons,List.getLast?_cons] at h
  rw[List.getLast?_cons]
  cases hl:l.getLast? with
  |none=>rw[hl] at h;simp at h;omega
  |some y=>rw[hl] at h;exact h
theorem Ch.last{u:List Rat}{L:List (List Rat)}(H:Ch u L):∃e:Int,(e=1∨e= -1)∧∀x,((u::L).map (sgE x)).getLast?=some e:=by
 induction H with
 | @one u c hc hu=>
  have h:=Ch.sg (.one hc hu) 0
  have hb:=d0_ 0 u
  refine⟨sgE 0 u,by have:=(h 0).2;omega,fun x=>?_⟩
  show some (sgE x u)=_
  rw[(h x).1]
 | @pair u v _ ih=>
  obtain⟨e,he,h⟩:=ih
  refine⟨e,he,fun x=>?_⟩
  rw[List.map_cons,List.map_cons,List.getLast?_cons_cons]
  exact h x
 | @step u v w L a c q _ _ _ _ ih=>
  obtain⟨e,he,h⟩:=ih
  refine⟨e,he,fun x=>?_⟩
  rw[List.map_cons,List.map_cons,List.getLast?_cons_cons]
  exact h x
theorem Ch.drop{u v:List Rat}{L:List (List Rat)}{k:Rat}(H:Ch u (v::L))(hk:0< k)(hd:∀x,evalP v x=k* dvE u x){x y:Rat}(hxy:x≤y)(hs:evalP u x* evalP u y< 0):chV (u::v::L) y+1≤chV (u::v::L) x:=by
 have h1:=H.fall hk hd hxy
 obtain⟨e,he,h⟩:=H.last
 have key:∀z,sgE z u≠0→chV (u::v::L) z % 2=if sgE z u=e then 0 else 1:=fun z hz=>by
  have hb:=d0_ z u
  unfold chV
  rw[List.map_cons,chL,if_pos hz,if_neg (by omega)]
  exact mz_ he _ _ (by omega) (fun s hs=>by
   obtain⟨q,_,rfl⟩:=List.mem_map.1 hs
   exact d0_ z q) (by have:=h z;rwa[List.map_cons] at this)
 have hx0:sgE x u≠0∧sgE y u≠0∧sgE x u≠sgE y u:=by
  rcases dt_ x u with⟨a,b⟩|⟨a,b⟩|⟨a,b⟩<;> rcases dt_ y u with⟨a',b'⟩|⟨a',b'⟩|⟨a',b'⟩
  have:=Rat.mul_pos b b';grind
  omega
  rw[b'] at hs;grind
  omega
  have:=Rat.mul_pos (show 0< -evalP u x by grind) (show 0< -evalP u y by grind);grind
  rw[b'] at hs;grind
  rw[b] at hs;grind
  rw[b] at hs;grind
  rw[b] at hs;grind
 have kx:=key x hx0.1
 have ky:=key y hx0.2.1
 have bx:=d0_ x u
 have bY:=d0_ y u
 by_cases hh:sgE x u=e
 rw[if_pos hh] at kx;rw[if_neg (by omega)] at ky;omega
 rw[if_neg hh] at kx;rw[if_pos (by omega)] at ky;omega
theorem div_one(q:List Rat):(divP q [1]).1=trimQ q:=by
 have h1:nz [1]:=nz_one
 obtain⟨m1,m2⟩:=hD_ q h1
 have hd1:dg [1]=0:=by decide+kernel
 have hz:¬nz (md q [1]):=fun e=>by have:=m2 e;omega
 have:trimQ (divP q [1]).1=trimQ q:=eqv_trim.1 fun x=>by
  have:=m1 x
  rw[eD_ hz,aF_,aX_] at this
  rw[this];grind
 rw[←this];exact(trim_div q [1]).1.symm
structure Lin (φ:List Rat→Rat):Prop where
 eqv:∀{p q},Eqv p q→φ p=φ q
 add:∀p q,φ (addP p q)=φ p+φ q
 scale:∀p k,φ (aN_ p k)=φ p* k
theorem Lin.zero{φ:List Rat→Rat}(H:Lin φ):φ []=0:=by
 have h:=H.scale [] 0
 rw[H.eqv (p:=aN_ [] 0) (q:=[]) fun x=>by rw[a5_,aX_];grind] at h
 rw[h];grind
theorem lin_it(a b:Rat):Lin (itP a b):=⟨fun h=>hL_ h a b,pE_ a b,ei_ a b⟩
theorem Lin.ofQ{φ:List Rat→Rat}(H:Lin φ){m:List Rat}{N:Nat}(hm:∀i,i< N→coP m i=φ (gK [1] i))(p:List Rat):∀n,n≤N→n≤p.length→ofQ p m n=φ (p.take n)
 |0,_,_=>H.zero.symm
 |n+1,h1,h2=>by
  rw[Go.Abs.ofQ,Lin.ofQ H hm p n (by omega) (by omega),hm n (by omega),H.eqv (p:=p.take (n+1)) (q:=addP (p.take n) (aN_ (gK [1] n) (coP p n))) (fun x=>by
   rw[c1_ _ _ _ (by omega),ck_,a5_,jI_];grind),H.add,H.scale]
  grind
theorem lt_(p:List Rat)(u v:Rat)(n:Nat):coP (mulP p [u,v]) n=coP p n* u+lag p n* v:=by
 have e:trimQ (mulP p [u,v])=trimQ (mulP [u,v] p):=j2_ fun x=>by rw[bh_,bh_];grind
 rw[trim_iff.1 e n,gn_]
 show coP (addL (fg_ p u) (0::addL (fg_ p v) (0::[]))) n=_
 rw[c7_,cO_]
 cases n with
 |zero=>rw[cu_];show _=_+0* v;grind
 |succ m=>
  rw[bS_,c7_,cO_]
  have:coP [(0:Rat)] m=0:=by cases m <;> rfl
  rw[this];show _+(coP p m* v+0)=_+coP p m* v;grind
theorem nz_line(r:Rat):nz [-r,1]∧dg [-r,1]=1:=by
 have h:=jB_ (p:=[-r,1]) (n:=1) ⟨by show(1:Rat)≠0;decide+kernel,fun i hi=>cs_ (by simp;omega)⟩
 exact⟨h.1,h.2.1⟩
theorem cancel{X Y:List Rat}{r:Rat}(h:∀x,evalP X x* (x- r)=evalP Y x* (x- r)):Eqv X Y:=by
 have hz:¬nz (subP X Y):=fun hz=>by
  have h2:=(dg_mul hz (nz_line r).1).1
  refine h2 (trim_nil_iff.2 (gJ_ fun x=>?_))
  have:=h x
  rw[bh_,cj_,cT_];grind
 intro x
 have:=eD_ hz x
 rw[cj_] at this;grind
def gJ(m:List Rat):Nat→List Rat
 |0=>[]
 |j+1=>coP m j::gJ m j
theorem coP_gJ(m:List Rat):∀j i,coP (gJ m j) i=if i< j then coP m (j- 1- i) else 0
 |0,i=>by rw[if_neg (by omega)];rfl
 |j+1,0=>by rw[if_pos (by omega)];rfl
 |j+1,i+1=>by
  show coP (gJ m j) i=_
  rw[coP_gJ m j i]
  by_cases h:i< j
  rw[if_pos h,if_pos (by omega)];congr 1;omega
  rw[if_neg h,if_neg (by omega)]
def tL(p m:List Rat):Nat→List Rat
 |0=>[]
 |j+1=>addL (tL p m j) (fg_ (gJ m j) (coP p j))
theorem coP_tL(p m:List Rat)(i:Nat):∀j,coP (tL p m j) i=tpV p m i j
 |0=>rfl
 |j+1=>by
  rw[tL,c7_,cO_,coP_tL p m i j,coP_gJ,tpV]
  by_cases h:i< j
  rw[if_pos h,if_pos h];grind
  rw[if_neg h,if_neg h];grind
theorem oO_(p m:List Rat)(i:Nat):∀j,j≤i+1→tpV p m i j=0
 |0,_=>rfl
 |j+1,h=>by rw[tpV,if_neg (by omega),oO_ p m i j (by omega)]
theorem qk_(p m:List Rat)(x:Rat):evalP (tpQ p m) x=evalP (tL p m p.length) x:=cA_ (fun i=>by
 unfold tpQ
 rw[dC_,coP_tL]
 by_cases h:i< p.length- 1
 rw[if_pos h]
 rw[if_neg h,oO_ _ _ _ _ (by omega)]) x
def GL(x:Rat):Nat→List Rat
 |0=>[]
 |j+1=>addP (aN_ (GL x j) x) (gK [1] j)
theorem qT_(x t:Rat):∀j,evalP (GL x j) t* (t- x)=t^ j- x^ j
 |0=>by show(0:Rat) * _=_;rw[Rat.pow_zero,Rat.pow_zero];grind
 |j+1=>by
  have:=qT_ x t j
  rw[GL,ck_,a5_,jI_,Rat.pow_succ,Rat.pow_succ];grind
theorem oP_{φ:List Rat→Rat}(H:Lin φ){m:List Rat}{N:Nat}(hm:∀i,i< N→coP m i=φ (gK [1] i))(p:List Rat)(hp:p.length≤N+1)(x:Rat):evalP (tpQ p m) x=φ (synD p x):=by
 have hG:∀j,j≤N→φ (GL x j)=evalP (gJ m j) x:=fun j=>by
  induction j with
  |zero=>intro _;exact H.zero
  |succ j ih=>intro hj;rw[GL,H.add,H.scale,ih (by omega),←hm j (by omega),gJ,aF_]
 have key:∀j,j≤p.length→φ (synD (p.take j) x)=evalP (tL p m j) x:=fun j=>by
  induction j with
  |zero=>intro _;exact H.zero
  |succ j ih=>
   intro hj
   rw[H.eqv (p:=synD (p.take (j+1)) x) (q:=addP (synD (p.take j) x) (aN_ (GL x j) (coP p j))) (cancel (r:=x) fun t=>by
    have a1:=dX_ (p.take (j+1)) x t
    have a2:=dX_ (p.take j) x t
    have a3:=qT_ x t j
    rw[c1_ _ _ _ (by omega),c1_ _ _ _ (by omega)] at a1
    rw[ck_,a5_]
    generalize evalP (synD (p.take (j+1)) x) t=w1 at *
    generalize evalP (synD (p.take j) x) t=w2 at *
    generalize evalP (GL x j) t=w3 at *
    grind),H.add,H.scale,ih (by omega),hG j (by omega),tL,d5_,dO_]
 rw[qk_,←key p.length (Nat.le_refl _),List.take_length]
theorem Mv.top{m m0:List Rat}{c r:Rat}{N:Nat}(H:Mv m m0 c r N){p p0:List Rat}{κ:Rat}(hp:p.length≤N+1)(hp0:p0.length≤N+1)(e:∀y,evalP p (c+r* y)=κ* evalP p0 y)(y:Rat):evalP (tpQ p m) (c+r* y)=κ* evalP (tpQ p0 m0) y:=by
 rw[oP_ (lin_it _ _) H.h p hp,oP_ (lin_it _ _) H.h0 p0 hp0,pD_,hL_ (p:=compP [c,r] (synD p (c+r* y))) (q:=aN_ (synD p0 y) (κ/ r)) (cancel (r:=y) fun t=>by
  have a1:=dX_ p (c+r* y) (c+r* t)
  have a2:=dX_ p0 y t
  have h0:=H.r0
  rw[e,e] at a1
  rw[c2_,cT_,a5_]
  generalize evalP (synD p (c+r* y)) (c+r* t)=w1 at *
  generalize evalP (synD p0 y) t=w2 at *
  have:w1* (t- y) * r=κ* (w2* (t- y)):=by grind
  generalize w1* (t- y)=z at *
  have:z=κ* (w2* (t- y)) / r:=by rw[←this];exact(Rat.mul_div_cancel h0).symm
  rw[this];grind),ei_]
 have h0:=H.r0
 generalize itP (-1) 1 (synD p0 y)=z
 grind
def bN:Nat→List Rat
 |1=>[0,1]
 |2=>[mkRat (-1) 3,0,1]
 |3=>[0,mkRat (-3) 5,0,1]
 |4=>[mkRat 3 35,0,mkRat (-6) 7,0,1]
 |_=>[1]
def bWt:Nat→List Rat
 |1=>[2]
 |2=>[1]
 |3=>[mkRat 8 9,0,mkRat (-5) 9]
 |4=>[mkRat 17 24,0,mkRat (-35) 72]
 |_=>[]
def bA:Nat→List Rat
 |2=>[-3]
 |3=>[0,mkRat (-25) 2]
 |4=>[mkRat 35 3,0,mkRat (-1225) 24]
 |_=>[]
def bB:Nat→List Rat
 |1=>[1]
 |2=>[0,mkRat 3 2]
 |3=>[mkRat (-5) 3,0,mkRat 25 6]
 |4=>[0,mkRat (-805) 96,0,mkRat 1225 96]
 |_=>[]
def bX(k i:Nat):Rat:=
 if i=0 then -1 else if i=k then 1 else if k=2 then 0 else if i=1 then mkRat (-1) 2 else if k=4∧i=2 then 0 else mkRat 1 2
def m0K(k:Nat):List Rat:=sqL (moQ [1] (-1,1)) (2* k)
def baseC(k:Nat):Prop:=
 (∀j,j< k+1→(ldr (m0K k) j).1=bN j)∧(∀j,j< k→0< ldN (m0K k) (ldr (m0K k) j).1)∧(bN k).length=k+1∧coP (bN k) k=1∧addP (mulP (bA k) (bN k)) (mulP (bB k) (a2_ (bN k)))=[1]∧
 (divP (subP (mulP (bWt k) (a2_ (bN k))) (tpQ (bN k) (m0K k))) (bN k)).2=[]∧(bWt k).length≤k∧(∀i,i< k→bX k i< bX k (i+1))∧(∀i,i< k→evalP (bN k) (bX k i) * evalP (bN k) (bX k (i+1))< 0)∧
 (∀j,j< k+1→bdL (bN j) 8∧(bN j).length≤5)∧bdL (bWt k) 8
instance (k:Nat):Decidable (baseC k):=by unfold baseC;infer_instance
section
variable {a b:Rat}(h:a< b){k:Nat}(hk:1≤k∧k≤4)
include h hk
end

theorem bdL_mono'{l:List Rat}{a b:Nat}(h:bdL l a)(hab:a≤b):bdL l b:=fun q hq=>Nat.le_trans (h q hq) hab
section
variable {a b:Rat}(h:a< b){k:Nat}(hk:1≤k∧k≤4)(ha:qs a≤20)(hb:qs b≤20)
include ha hb
end
section
variable {a b:Rat}(h:a< b){k:Nat}(hk:1≤k∧k≤4)
include h hk
variable (ha:qs a≤20)(hb:qs b≤20)
include ha hb
end
section
variable {a b:Rat}(h:a< b){k:Nat}(hk:1≤k∧k≤4)(ha:qs a≤20)(hb:qs b≤20)
include h hk ha hb
end
section
variable {a b a' b':Rat}(h:a< b)(h':a'< b'){k:Nat}(hk:1≤k∧k≤4)
include h h'
end
section
variable {a b a' b':Rat}(ha:qs a≤20)(hb:qs b≤20)(ha':qs a'≤20)(hb':qs b'≤20)
include ha hb ha' hb'
end
def okReC(c:Cnt)(p:List Rat):Prop:=okBe c (-cC_ p)∧okUp c (cC_ p)∧smS (-cC_ p,cC_ p)∧eC_ p∧p.length≤1000∧1≤degP p∧degP p≤25
instance (c:Cnt) (p:List Rat):Decidable (okReC c p):=by unfold okReC;infer_instance
def realM(f:Nat)(p:List Rat):Option Bool:=(eS_ f p).bind fun c=>if okReC c p then some (decide (uptoV c (cC_ p)- f6_ c (-cC_ p)=degP p)) else none
def okOnC(p m G A:List Rat):Prop:=okBz (a2_ p) p G A∧okMul (tpQ p m) (bzA p G A)∧okDiv (mulP (tpQ p m) (bzA p G A)) p∧trimQ p=p∧2≤p.length∧p.length≤1000∧p.length≤m.length+1∧(p.length+1) * (mxL p+mxL m+1)≤137438953472∧smL p
instance (p m G A:List Rat):Decidable (okOnC p m G A):=by unfold okOnC;infer_instance
def onM(f:Nat)(p m:List Rat):Option (List Rat):=(bzL f (a2_ p) p (dB_ ((1:Int):Rat)) []).bind fun x=>if okOnC p m x.1 x.2 then some (divP (mulP (tpQ p m) (bzA p x.1 x.2)) p).2 else none
def suP(p:List Rat):List Rat:=suL (trimQ p) (dg p) (dg p- 1)
def apV(p w f:List Rat):Rat:=ofQ (apR p w f) (suP p) (apR p w f).length
instance (T:List Rat) (n k:Nat):Decidable (okSu T n k):=by unfold okSu;infer_instance
instance (f:List Rat) (s:Sp) (k:Nat):Decidable (okMo f s k):=by unfold okMo smL;infer_instance
def okAp(p w f:List Rat):Prop:=okDiv f p∧okMul w (divP f p).2∧okDiv (mulP w (divP f p).2) p∧1≤dg p∧dg p≤1000∧p.length≤1000∧(∀k,k< dg p- 1→okSu (trimQ p) (dg p) k)∧(apR p w f).length≤dg p∧((apR p w f).length+2) * (mxL (apR p w f)+mxL (suP p)+1)≤137438953472∧sm (apV p w f)
instance (p w f:List Rat):Decidable (okAp p w f):=by unfold okAp;infer_instance
def m6:List Rat:=sqL (moQ [1] (-1,1)) 6
def p13:List Rat:=[mkRat (-1) 3,0,1]
def p35:List Rat:=[0,mkRat (-3) 5,0,1]
def w35:List Rat:=[mkRat 8 9,0,mkRat (-5) 9]
def pRa:List Rat:=[mkRat (-1) 3,mkRat 2 3,1]
def wRa:List Rat:=[mkRat 5 4,mkRat 3 4]
def mRa:List Rat:=sqL (tmQ (enM (-1)) m6) (m6.length+1- (trimQ (enM (-1))).length)
def mKr:List Rat:=sqL (tmQ (ldr m6 1).1 m6) (m6.length+1- (trimQ (ldr m6 1).1).length)
theorem c_m6:m6=[2,0,mkRat 2 3,0,mkRat 2 5,0]:=by decide+kernel
theorem c_ok:(∀k,k< 2→okLd m6 k)∧(∀k,k< 6→okMo [1] (-1,1) k):=by decide+kernel
theorem c_g:(ldr m6 2).1=p13∧realM 9 p13=some true∧onM 9 p13 m6=some [1]∧bd_ p13=p13∧bdL p13 100∧trimQ p13≠[]:=by decide+kernel
theorem c_d:(∀k,k< 5→okAp p13 [1] (List.replicate k 0++[((1:Int):Rat)]))∧(∀k,k< 4→apV p13 [1] (List.replicate k 0++[((1:Int):Rat)])=coP m6 k)∧apV p13 [1] (List.replicate 4 0++[((1:Int):Rat)])≠coP m6 4:=by decide+kernel
theorem c_k:okMul (ldr m6 1).1 (ldr m6 1).1∧okOf m6 (mulP (ldr m6 1).1 (ldr m6 1).1)∧0< ldN m6 (ldr m6 1).1∧4≤mKr.length∧coP mKr 1≠0∧okMul (ldr m6 1).1 (krE mKr 1 2)∧mulP (ldr m6 1).1 (krE mKr 1 2)=p35∧bdL (ldr m6 1).1 100∧bdL m6 100∧(ldr m6 1).1.length≤1000:=by decide+kernel
instance (m:List Rat) (n k:Nat):Decidable (okKr m n k):=by unfold okKr;infer_instance
theorem c_kk:∀k,k< 2→okKr mKr 1 k:=by decide+kernel
theorem c_kp:realM 9 p35=some true∧onM 9 p35 m6=some w35∧bd_ p35=p35∧bdL p35 100∧trimQ p35≠[]:=by decide+kernel
theorem c_r:(∀k,k< 1→okLd mRa k)∧okMul (enM (-1)) (ldr mRa 1).1∧mulP (enM (-1)) (ldr mRa 1).1=pRa∧realM 9 pRa=some true∧onM 9 pRa m6=some wRa∧bd_ pRa=pRa∧bdL pRa 100∧trimQ pRa≠[]∧bdL (enM (-1)) 100:=by decide+kernel
def lB:Nat→Nat
 |0=>1
 |n+1=>2* lB n+600
theorem eG_:∀n,1≤lB n
 |0=>Nat.le_refl _
 |n+1=>by rw[lB];omega
theorem lB_ok:((List.range 9).all fun n=>decide (lB n≤160000))=true:=by decide+kernel
theorem lB_le{n:Nat}(h:n≤8):lB n≤160000:=of_decide_eq_true (List.all_eq_true.1 lB_ok n (List.mem_range.2 (by omega)))
theorem bd_uv{u v:Rat}{s:Nat}(hu:qs u≤s)(hv:qs v≤s):bdL [u,v] s:=fun q hq=>by
 rcases List.mem_cons.1 hq with rfl|hq
 exact hu
 rw[List.mem_singleton.1 hq];exact hv
theorem mw_{l:List Rat}{q:Rat}(h:q∈l):∃i,i< l.length∧coP l i=q:=by
 obtain⟨i,hi,e⟩:=List.getElem_of_mem h
 exact⟨i,hi,by rw[←e];unfold coP;rw[List.getD_eq_getElem?_getD,List.getElem?_eq_getElem hi];rfl⟩
theorem line_bd{p:List Rat}{u v:Rat}{s:Nat}(hp:bdL p s)(hs:1≤s)(hu:qs u≤256)(hv:qs v≤256):bdL (mulP p [u,v]) (2* s+600):=fun q hq=>by
 obtain⟨i,_,e⟩:=mw_ hq
 rw[←e,lt_]
 have h1:=gB_ (coP p i* u) (lag p i* v)
 have h2:=cb_ (coP p i) u
 have h3:=cb_ (lag p i) v
 have h4:=bQ_ hp hs i
 have h5:qs (lag p i)≤s:=by
  cases i with
  |zero=>show qs 0≤s;exact Nat.le_trans (by decide) hs
  |succ i=>exact bQ_ hp hs i
 omega
theorem fO_{u v:Rat}(hu:qs u≤256)(hv:qs v≤256):∀n,bdL (powP [u,v] n) (lB n)
 |0=>fun q hq=>by
  have:=bk_ (l:=[1]) hq
  rw[List.mem_singleton.1 this]
  show qs 1≤1
  decide
 |n+1=>line_bd (fO_ hu hv n) (eG_ n) hu hv
theorem qiN(n:Int):qs (n:Rat)≤max (bl n.natAbs) 1:=by
 have e1:(n:Rat).num=n:=rfl
 have e2:(n:Rat).den=1:=rfl
 unfold qs;rw[e1,e2,jk_];exact Nat.le_refl _
theorem qi21{n:Int}(h: -2000000≤n∧n≤2000000):qs (n:Rat)≤21:=by
 have h1:=qiN n
 have h2:bl n.natAbs≤21:=bl_le (by omega)
 omega
theorem hM_{p:List Rat}{s:Nat}(h:bdL p s)(hs:1≤s)(hl:p.length≤1000000):bdL (aI_ p) (s+21):=fun q hq=>by
 obtain⟨i,hi,e⟩:=mw_ hq
 have hil:=ej_ p
 rw[←e,bE_]
 split
 exact Nat.le_trans (by decide:qs 0≤1) (by omega)
 have h1:=d1_ (coP p (i- 1)) (((i:Nat):Int):Rat)
 have h2:=bQ_ h hs (i- 1)
 have h3:=qi21 (n:=((i:Nat):Int)) (by omega)
 omega
theorem gK_bd{f:List Rat}{s:Nat}(h:bdL f s)(hs:1≤s):∀k,bdL (gK f k) s
 |0=>h
 |k+1=>fun q hq=>by
  obtain⟨i,hi,e⟩:=mw_ hq
  rw[←e,gK,lt_,Rat.mul_zero,Rat.zero_add,Rat.mul_one]
  cases i with
  |zero=>exact Nat.le_trans (by decide:qs 0≤1) hs
  |succ i=>exact bQ_ (gK_bd h hs k) hs i
theorem gK_len(f:List Rat):∀k,(gK f k).length≤f.length+k
 |0=>Nat.le_refl _
 |k+1=>by
  have h1:=gK_len f k
  have h2:=mulP_line_len' (gK f k) 0 1
  rw[gK];omega
def jcF(a b:Rat)(p q:Nat):List Rat:=mulP (powP [-a,1] p) (powP [b,-1] q)
section
variable {a b:Rat}{p q:Nat}(ha:qs a≤256)(hb:qs b≤256)(hp:p≤8)(hq:q≤8)
include ha in
theorem jc_p:bdL (powP [-a,1] p) (lB p):=fO_ (by rw[fi_];exact ha) (by decide) p
include hb in
theorem jc_q:bdL (powP [b,-1] q) (lB q):=fO_ hb (by decide) q
omit ha hb hp hq in
theorem ef_(u v:Rat){n:Nat}(h:n≤8):(powP [u,v] n).length≤17:=by
 have:=fN_ [u,v] n
 have e:[u,v].length=2:=rfl
 rw[e] at this;omega
include ha hb hp hq
theorem jcF_bd:bdL (jcF a b p q) 5500000∧(jcF a b p q).length≤34:=by
 have l1:=ef_ (-a) 1 hp
 have l2:=ef_ b (-1) hq
 constructor
 intro x hx
 have h1:=po_ (jc_p (p:=p) ha) (jc_q (q:=q) hb) (eG_ p) (eG_ q) x hx
 have h2:=lB_le hp
 have h3:=lB_le hq
 have h4:=Nat.mul_le_mul l1 (show lB p+lB q+1≤320001 by omega)
 omega
 have:=lX_ (powP [-a,1] p) (powP [b,-1] q)
 show(mulP _ _).length≤_
 omega
theorem jc_mom(k:Nat)(hk:k≤64):okMo (jcF a b p q) (a,b) k∧qs (moQ (jcF a b p q) (a,b) k)≤2000000000:=by
 obtain⟨f1,f2⟩:=jcF_bd ha hb hp hq
 have g1:=gK_bd f1 (by decide) k
 have g2:=gK_len (jcF a b p q) k
 have i1:=hM_ g1 (by decide) (by omega)
 have i2:=ej_ (gK (jcF a b p q) k)
 have m1:=mxL_le g1 (by decide)
 have m2:=mxL_le i1 (by decide)
 have e1:=dP_ (x:=a) ha i1
 have e2:=dP_ (x:=b) hb i1
 have e3:=Nat.mul_le_mul_right (5500000+21+256+1) (show(aI_ (gK (jcF a b p q) k)).length≤99 by omega)
 have e4:=Nat.mul_le_mul (show(aI_ (gK (jcF a b p q) k)).length≤99 by omega) (show mxL (aI_ (gK (jcF a b p q) k))+qs a+1≤5600000 by omega)
 have e5:=Nat.mul_le_mul (show(aI_ (gK (jcF a b p q) k)).length≤99 by omega) (show mxL (aI_ (gK (jcF a b p q) k))+qs b+1≤5600000 by omega)
 have e7:mxL [0,1]=1:=by decide+kernel
 have e6:=Nat.mul_le_mul (show(gK (jcF a b p q) k).length≤98 by omega) (show mxL (gK (jcF a b p q) k)+mxL [0,1]+1≤5600000 by omega)
 refine⟨⟨fun q hq=>Nat.le_trans (g1 q hq) (by decide),by omega,⟨by show _* (_+qs a+1)+_+qs a+2≤_;omega,by omega⟩,⟨by show _* (_+qs b+1)+_+qs b+2≤_;omega,by omega⟩,⟨by omega,by omega,by omega,by simp⟩⟩,?_⟩
 have:=qs_sub (evalP (aI_ (gK (jcF a b p q) k)) b) (evalP (aI_ (gK (jcF a b p q) k)) a)
 show qs (evalP (aI_ (gK (jcF a b p q) k)) b- evalP (aI_ (gK (jcF a b p q) k)) a)≤_
 omega
end
def fcN:Nat→Nat
 |0=>1
 |n+1=>fcN n* (n+1)
def lgQ(p k:Nat):Rat:=((fcN (p+k):Nat):Int)
theorem fcN_ok:((List.range 74).all fun n=>decide (bl (fcN n)≤512))=true:=by decide+kernel
theorem gI_{n:Nat}(h:n≤73):qs (((fcN n:Nat):Int):Rat)≤512:=by
 have h1:=of_decide_eq_true (List.all_eq_true.1 fcN_ok n (List.mem_range.2 (by omega)))
 have h2:=qiN ((fcN n:Nat):Int)
 simp only[Int.natAbs_natCast] at h2
 omega
def evM(f:Nat→Rat):Nat→Rat
 |0=>1
 |j+1=>evM f j* f (2* (j+1))
def evW(f:Nat→Rat)(i:Nat):Rat:=if i % 2=0 then evM f (i/ 2) else 0
theorem qm_{f:Nat→Rat}{s:Nat}:∀n,(∀j,j< n→qs (f (2* (j+1)))≤s)→qs (evM f n)≤n* s+1
 |0,_=>by show qs 1≤0* s+1;rw[Nat.zero_mul];decide
 |n+1,h=>by
  have h1:=qm_ n fun j hj=>h j (by omega)
  have h2:=cb_ (evM f n) (f (2* (n+1)))
  have h3:=h n (by omega)
  have h4:(n+1) * s=n* s+s:=Nat.succ_mul n s
  rw[evM];omega
def evK:Nat→Nat→Rat
 |1,k=>(((k:Int)- 1:Int):Rat) / ((2:Int):Rat)
 |2,k=>(((k:Int)- 1:Int):Rat) / (((k:Nat):Int):Rat)
 |_,k=>(((k:Int)- 1:Int):Rat) / (((k:Int)+2:Int):Rat)
theorem nv_(c k:Nat)(h:k≤200):qs (evK c k)≤42:=by
 have h1:=qi21 (n:=(k:Int)- 1) (by omega)
 unfold evK
 split
 have:=d1_ (((k:Int)- 1:Int):Rat) ((2:Int):Rat)
 have h2:=qi21 (n:=2) (by omega)
 omega
 have:=d1_ (((k:Int)- 1:Int):Rat) (((k:Nat):Int):Rat)
 have h2:=qi21 (n:=((k:Nat):Int)) (by omega)
 omega
 have:=d1_ (((k:Int)- 1:Int):Rat) (((k:Int)+2:Int):Rat)
 have h2:=qi21 (n:=(k:Int)+2) (by omega)
 omega
def oddM(k:Nat):Nat→Rat
 |0=>1
 |j+1=>oddM k j* (((2* j+1:Nat):Int):Rat)
def halfM(m:Rat):Nat→Rat
 |0=>m
 |j+1=>halfM m j* (1/ 2)
def evD(c k:Nat):Rat:=
 if k % 2=0 then
  if c=1 then halfM (oddM k (k/ 2)) (k/ 2)
  else
   let m:=halfM (halfM ((((fcN k:Nat):Int):Rat) / (((fcN (k/ 2):Nat):Int) * ((fcN (k/ 2):Nat):Int):Rat)) (k/ 2)) (k/ 2)
   if c=3 then m/ (((k/ 2+1:Nat):Int):Rat) else m
 else 0
theorem evD_evS:((List.range 3).all fun c=>(List.range 21).all fun k=>decide (evD (c+1) k=evW (evK (c+1)) k))=true:=by decide+kernel
theorem evD_eq{c k:Nat}(hc:1≤c∧c≤3)(hk:k≤20):evD c k=evW (evK c) k:=by
 have h1:=List.all_eq_true.1 evD_evS (c- 1) (List.mem_range.2 (by omega))
 have h2:=of_decide_eq_true (List.all_eq_true.1 h1 k (List.mem_range.2 (by omega)))
 rw[show c- 1+1=c by omega] at h2
 exact h2
def pd:Nat→Nat→List UInt8
 |0,_=>[]
 |k+1,n=>pd k (n/ 10)++[UInt8.ofNat (48+n % 10)]
theorem kD_(k n:Nat):(pd k n).length=k:=by
 induction k generalizing n with
 |zero=>rfl
 |succ k ih=>rw[pd,List.length_append,ih];rfl
theorem pd_add(j k n:Nat):pd (j+k) n=pd j (n/ 10^ k)++pd k n:=by
 induction k generalizing n with
 |zero=>rw[Nat.add_zero,Nat.pow_zero,Nat.div_one];simp[pd]
 |succ k ih=>rw[←Nat.add_assoc,pd,pd,ih,Nat.div_div_eq_div_mul,Nat.pow_succ,Nat.mul_comm 10,List.append_assoc]
theorem pd_mod(k n:Nat):pd k (n % 10^ k)=pd k n:=by
 induction k generalizing n with
 |zero=>rfl
 |succ k ih=>
  rw[pd,pd,Nat.pow_succ]
  have e1:n % (10^ k* 10) / 10=n/ 10 % 10^ k:=by
   rw[Nat.mul_comm,Nat.mod_mul_right_div_self]
  have e2:n % (10^ k* 10) % 10=n % 10:=by rw[Nat.mod_mul_left_mod]
  rw[e1,e2,ih]
theorem pd_front(k n:Nat):pd (k+1) n=UInt8.ofNat (48+n/ 10^ k % 10)::pd k n:=by
 rw[Nat.add_comm,pd_add];rfl
theorem pi_(k:Nat):pd k 0=List.replicate k 48:=by
 induction k with
 |zero=>rfl
 |succ k ih=>rw[pd,ih,List.replicate_succ'];rfl
def dropZ:List UInt8→List UInt8
 |[]=>[]
 |c::l=>if c=48 then dropZ l else c::l
theorem lk_{a b:List UInt8}(h:dropZ a≠[]):dropZ (a++b)=dropZ a++b:=by
 induction a with
 |nil=>exact absurd rfl h
 |cons c a ih=>
  rw[List.cons_append,dropZ,dropZ]
  rw[dropZ] at h
  by_cases hc:c=48
  rw[if_pos hc] at h;rw[if_pos hc,if_pos hc,ih h]
  rw[if_neg hc,if_neg hc];rfl
theorem mo_(k:Nat)(l:List UInt8):dropZ (List.replicate k 48++l)=dropZ l:=by
 induction k with
 |zero=>rfl
 |succ k ih=>rw[List.replicate_succ,List.cons_append,dropZ,if_pos rfl,ih]
theorem dig_ne{n:Nat}(h0:n≠0)(h:n< 10):UInt8.ofNat (48+n)≠48:=by
 have:∀n,n< 10→n≠0→UInt8.ofNat (48+n)≠48:=by decide
 exact this n h h0
theorem gM_(n:Nat):Lib.decDigits n≠[]:=by
 intro e
 have h1:=Lib.decDigits_length n
 rw[e] at h1
 have:=Lib.nDigits_pos n
 simp at h1;omega
theorem nB_:∀(k n:Nat),0< n→n< 10^ k→dropZ (pd k n)=Lib.decDigits n
 |0,n,h,h2=>by rw[Nat.pow_zero] at h2;omega
 |k+1,n,h,h2=>by
  rw[pd,Lib.decDigits]
  by_cases h10:n< 10
  rw[dif_pos h10,Nat.div_eq_of_lt h10,pi_,mo_,Nat.mod_eq_of_lt h10,dropZ,if_neg (dig_ne (by omega) h10)]
  rw[dif_neg h10]
  have ih:=nB_ k (n/ 10) (by omega) (by rw[Nat.pow_succ] at h2;omega)
  rw[lk_ (by rw[ih];exact gM_ _),ih]
theorem lo_:∀(k a b:Nat),0< a→b< 10^ k→Lib.decDigits (a* 10^ k+b)=Lib.decDigits a++pd k b
 |0,a,b,h,hb=>by
  have:b=0:=by rw[Nat.pow_zero] at hb;omega
  subst this;simp[pd]
 |k+1,a,b,h,hb=>by
  have hp:1≤10^ k:=Nat.one_le_pow _ _ (by decide)
  have hap:1≤a* 10^ k:=Nat.mul_le_mul h hp
  have e:a* 10^ (k+1)+b=(a* 10^ k) * 10+b:=by rw[Nat.pow_succ,Nat.mul_assoc]
  rw[e,Lib.decDigits,dif_neg (by omega),show(a* 10^ k* 10+b) / 10=a* 10^ k+b/ 10 by omega,show(a* 10^ k* 10+b) % 10=b % 10 by omega,lo_ k a (b/ 10) h (by rw[Nat.pow_succ] at hb;omega),pd,List.append_assoc]
theorem pd_dec:∀(k n:Nat),0< n→n< 10^ k→pd k n=List.replicate (k- (Lib.decDigits n).length) 48++Lib.decDigits n
 |0,n,h,h2=>by rw[Nat.pow_zero] at h2;omega
 |k+1,n,h,h2=>by
  rw[pd,Lib.decDigits]
  by_cases h10:n< 10
  rw[dif_pos h10,Nat.div_eq_of_lt h10,pi_,Nat.mod_eq_of_lt h10];rfl
  rw[dif_neg h10,pd_dec k (n/ 10) (by omega) (by rw[Nat.pow_succ] at h2;omega),List.length_append,List.append_assoc]
  congr 2
  simp
theorem nd_(f:List Rat)(x:Rat):∀n,evalP (gK f n) x=evalP f x* x^ n
 |0=>by rw[gK,Rat.pow_zero,Rat.mul_one]
 |n+1=>by
  rw[gK,bh_,nd_ f x n,Rat.pow_succ,cT_];grind
theorem mo_mono(f:List Rat)(a b:Rat)(k:Nat):evalP (aI_ (mulP f (shP k [1]))) b- evalP (aI_ (mulP f (shP k [1]))) a=moQ f (a,b) k:=by
 have h:Eqv (mulP f (shP k [1])) (gK f k):=fun x=>by
  rw[bh_,j3_,nd_,aF_,aX_];grind
 exact hL_ h a b
end Go.Abs
