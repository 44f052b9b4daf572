/- Part V13 of the proof. -/
import Derived.Test.YtjjllafelolfoaaGreatDoorV12
set_option linter.all false
namespace Go.Abs
def hG:Nat→Nat→Nat→Nat→Nat→Nat→Bool
 |0,_,_,_,_,_=>false
 |f+1,m,n,s,t,X=>if n=0 then decide (s≤X) else
  decide (2^ (m+1- n) * (s+2* t+1)≤137438953472) && (List.range n).all fun k=>hG f n k t (s+(m+1- n) * (t+1)) X
theorem io_:∀f m n s t X (p q:List Rat),hG f m n s t X=true→(trimQ p).length=m→(trimQ q).length=n→bdL p s→bdL q t→Ht p s→Ht q t→1≤s→1≤t→p.length≤1000→q.length≤1000→X≤137438953472→
    ∃g,gcdM f p q=some g∧g.length≤1000∧Ht g X∧bdL g X
 |0,_,_,_,_,_,_,_,h,_,_,_,_,_,_,_,_,_,_,_=>by cases h
 |f+1,m,n,s,t,X,p,q,h,hm,hn,hp,hq,kp,kq,hs,ht,hp1,hq1,hX=>by
  rw[hG] at h;rw[gcdM];by_cases h0:n=0;rw[if_pos h0] at h;have hsX:=of_decide_eq_true h;have e:trimQ q=[]:=List.length_eq_zero_iff.1 (by omega);rw[if_pos e,if_pos (bI_ hp (by omega))];obtain⟨a,b⟩:=kp.monic hs;exact⟨_,rfl,Nat.le_trans (gH_ p) hp1,b.mono hsX,fun x hx=>Nat.le_trans (a x hx) hsX⟩;rw[if_neg h0] at h;simp only[Bool.and_eq_true,decide_eq_true_eq,List.all_eq_true,List.mem_range] at h;obtain⟨hL,hk⟩:=h;have hq0:trimQ q≠[]:=fun e=>by grind
  have hmp:=bz_ hp hs;have hmq:=bz_ hq ht;have hmono:2^ (m+1- n) * (mxL p+2* mxL q+1)≤2^ (m+1- n) * (s+2* t+1):=Nat.mul_le_mul_left _ (by omega);rw[if_neg hq0,if_pos (show okDiv p q from⟨by grind,by omega,by omega⟩)];have hd:=(ks_ kp kq hq0).2;rw[hm,hn] at hd;obtain⟨b1,b2⟩:=hd.monic (by omega);have hlen:=(gv_ (p:=p) (q:=q)).2;have hml:=gH_ (divP p q).2;have hkn:(trimQ (divP p q).2).length< n:=by rw[←hn];exact(ff_ p q hq0).2
  have hmn:(trimQ (a4_ (divP p q).2)).length=(trimQ (divP p q).2).length:=by
   by_cases hz:trimQ (divP p q).2=[];unfold a4_;rw[if_pos hz,hz];rfl;unfold a4_;rw[if_neg hz];exact hW_ fun e=>by have:=Rat.div_mul_cancel (a:=1) (bj_ hz);grind
  exact io_ f n _ t _ X q _ (hk _ hkn) hn hmn hq b1 kq b2 ht (by omega) hq1 (by omega) hX
def cB:Nat→Nat→Nat→Nat→Nat→Nat→Nat→Bool
 |0,_,_,_,_,_,_=>false
 |f+1,m,n,s,t,b,T=>if n=0 then true else
  decide (t≤T) && decide ((n+4) * b≤34359738368) && decide (2^ (m+1- n) * (s+2* t+1)≤137438953472) &&
   (List.range n).all fun k=>cB f n k t (s+(m+1- n) * (t+1)) (2^ (m+1- n) * (s+2* t+1)) T
theorem iK_:∀k f m n s t b T (last next:List Rat) (acc:List (List Rat)),cB k m n s t b T=true→(trimQ last).length=m→(trimQ next).length=n→next.length=n→bdL last s→Ht last s→Ht next t→bdL next b→1≤s→1≤t→1≤b→last.length≤1000→next.length≤1000→
    ∃out,ha_ f k last next acc=some out∧out.length≤acc.length+n∧∀q∈out,q∈acc∨(nz q∧q.length≤n∧bdL q T)
 |0,_,_,_,_,_,_,_,_,_,_,h,_,_,_,_,_,_,_,_,_,_,_,_=>by cases h
 |k+1,f,m,n,s,t,b,T,last,next,acc,h,hm,hn,hnl,hl,kl,kn,hnb,hs,ht,hb,hl1,hn1=>by
  rw[cB] at h;rw[ha_];by_cases h0:n=0
  ·grind
  rw[if_neg h0] at h;simp only[Bool.and_eq_true,decide_eq_true_eq,List.all_eq_true,List.mem_range] at h;obtain⟨⟨⟨hT,hP⟩,hL⟩,hk⟩:=h;have hq0:trimQ next≠[]:=fun e=>by grind
  obtain⟨p1,p2⟩:=kn.prim hq0 ht;obtain⟨c,c0,hc⟩:=fL_ hq0;obtain⟨d1,d2,_⟩:=dG_ hq0 (show c≠0 by grind) hc
  have hpn:(trimQ (primP next)).length=n:=by
   have a1:=List.length_pos_iff.2 d1;have a2:=List.length_pos_iff.2 hq0;unfold dg at d2;omega
  have hmb:=bz_ hnb hb;have hml:=bz_ hl hs;have hmp:=bz_ p1 ht
  have hpl:(primP next).length=n:=by
   unfold primP;unfold primP at hpn;rw[←hpn];unfold aw_;rw[aY_]
  have hmono:2^ (m+1- n) * (mxL last+2* mxL (primP next)+1)≤2^ (m+1- n) * (s+2* t+1):=Nat.mul_le_mul_left _ (by omega);have hmono2:(n+4) * mxL next≤(n+4) * b:=Nat.mul_le_mul_left _ hmb
  rw[if_neg hq0,if_pos (show lc_ next∧okDiv last (primP next)∧trimQ (primP next)≠[] from⟨⟨by grind,by omega⟩,⟨by grind,by omega,by omega⟩,d1⟩)];have hd:=(ks_ kl p2 d1).2;rw[hm,hpn] at hd;have hbd:=(rf_ hl p1 hs ht d1 (by rw[hm,hpn];exact Nat.le_refl _)).2;have hL1:1≤2^ (m+1- n) * (s+2* t+1):=Nat.mul_pos (Nat.two_pow_pos _) (by omega);have hm1:(-1:Rat)≠0:=by decide+kernel
  have hkn:(trimQ (aw_ (divP last (primP next)).2 (-1))).length< n:=by rw[hW_ hm1,←hpn];exact(ff_ last _ d1).2
  have hsl:(aw_ (divP last (primP next)).2 (-1)).length=(trimQ (aw_ (divP last (primP next)).2 (-1))).length:=by unfold aw_;rw[aY_]
  obtain⟨out,o1,o2,o3⟩:=iK_ k f n _ t _ _ T (primP next) (aw_ (divP last (primP next)).2 (-1)) (acc++[primP next]) (hk _ hkn) hpn rfl hsl p1 p2 (hd.scale hm1 fun i=>bA_ _ _ i)
   (ew_ fun i=>by
    rw[bA_,show coP (divP last (primP next)).2 i* -1= -coP (divP last (primP next)).2 i by grind,cQ_];exact bL_ hbd hL1 i) ht (by omega) hL1 (by omega) (by omega)
  refine⟨out,o1,?_,fun q hq=>?_⟩;rw[List.length_append,List.length_singleton] at o2;omega;rcases o3 q hq with h|⟨a,b',c'⟩
  rcases List.mem_append.1 h with h|h
  exact .inl h;rw[List.mem_singleton.1 h];exact .inr ⟨d1,by omega,fun x hx=>Nat.le_trans (p1 x hx) hT⟩;grind
theorem hG_all:((List.range 8).all fun m=>(List.range m).all fun n=>hG 9 m n 161 165 20000)=true:=by decide+kernel
theorem cB_all:((List.range 8).all fun m=>(List.range m).all fun n=>cB 9 m n 140168 140172 140172 20000000)=true:=by decide+kernel
theorem eD_(p:List Rat)(k:Rat):trimQ (aw_ p k)=aw_ p k:=aY_ _
theorem eE_(p:List Rat):trimQ (a4_ p)=a4_ p:=by
 unfold a4_;split;rfl;exact aY_ _
theorem dV_{p:List Rat}(h:nz p):(ao_ p).length< (trimQ p).length:=by
 have h0:=List.length_pos_iff.2 h
 have e:ao_ p=ao_ (trimQ p):=by
  have h1:trimQ (ao_ p)=ao_ p:=aY_ _;have h2:trimQ (ao_ (trimQ p))=ao_ (trimQ p):=aY_ _;rw[←h1,←h2];exact d3_ fun i=>by rw[bn_,bn_,aU_]
 have:=dX_ (trimQ p);grind
theorem iC_{p:List Rat}{s g:Nat}(hl:(trimQ p).length≤7)(hb:bdL p s)(hs:1≤s)(hH:Ht p g):bdL (ao_ p) (s+4)∧Ht (ao_ p) (g+4):=by
 have e:∀i,coP (ao_ p) i=coP (ao_ (trimQ p)) i:=fun i=>by rw[bn_,bn_,aU_]
 constructor;refine ew_ fun i=>?_;rw[bn_];by_cases hi:i+1< (trimQ p).length;have h1:=bK_ (coP p (i+1)) (nQ (i+1));have h2:=qs_nQ (n:=i+1) (k:=3) (bl_le (by omega)) (by decide);have h3:=bL_ hb hs (i+1);exact Nat.le_trans h1 (by omega);rw[←aU_,ca_ (show(trimQ p).length≤i+1 by omega),Rat.zero_mul];exact Nat.le_trans (by decide:qs 0≤1) (by omega);refine((hH.trim).derive.scale (c:=1) (r:=ao_ p) (by grind) fun i=>by grind).mono ?_;have:bl (trimQ p).length≤3:=bl_le (by omega);omega
theorem pn_{p:List Rat}(np:nz p)(hl:(trimQ p).length≤7)(hp:p.length≤1000)(hb:bdL p 20):∃s,sqfM 9 p=some s∧nz s∧s.length≤7∧Ht s 140168∧bdL s 140168:=by
 have hH:Ht p 161:=(Ht.of (s:=20) (p:=trimQ p) fun q hq=>hb q (ba_ hq)).untrim.mono (by omega);have hdl:=dV_ np;have hdt:trimQ (ao_ p)=ao_ p:=aY_ _;have hd0:=iC_ hl hb (by decide) hH;have hd:bdL (ao_ p) 165∧Ht (ao_ p) 165:=⟨fun x hx=>Nat.le_trans (hd0.1 x hx) (by decide),hd0.2⟩;have hg:=hG_all;simp only[List.all_eq_true,List.mem_range] at hg;obtain⟨g,g1,g2,g3,g4⟩:=io_ 9 _ _ 161 165 20000 p (ao_ p) (hg _ (by omega) _ (by grind)) rfl rfl (fun x hx=>Nat.le_trans (hb x hx) (by decide)) hd.1 hH hd.2 (by decide) (by decide) hp (by omega) (by decide);obtain⟨z0,z1,z2,a,b,z3⟩:=eN_ 9 _ _ _ g1 (.inl np);obtain⟨u,hu⟩:=z1;obtain⟨m1,m2⟩:=dC_ p z0;have hm:=ib_ (u:=u) (v:=[]) z0 (fun x=>by rw[hu x,am_];grind) (fun e=>absurd rfl e)
 have hs:∀x,evalP p x=evalP (divP p g).1 x* evalP g x:=fun x=>by
  have:=m1 x;rw[hm x,am_] at this;grind
 obtain⟨n1,n2⟩:=cJ_ hs np;have e1:=(dg_mul' n1 n2 hs).2.1;have e2:=(cx_ n1).2.2;have e3:=(cx_ n1).2.1;have hlg:=List.length_pos_iff.2 z0;have h1:=bz_ hb (by decide);have h2:=bz_ g4 (by decide);have hpow:2^ ((trimQ p).length+1- (trimQ g).length)≤2^ 7:=Nat.pow_le_pow_right (by decide) (by omega);have hmul:=Nat.mul_le_mul hpow (show mxL p+2* mxL g+1≤50000 by omega);have hq:=(ks_ hH g3 z0).1;obtain⟨q1,q2⟩:=(hq.mono (show _≤140168 by omega)).monic (by decide);refine⟨a4_ (divP p g).1,?_,e3,?_,q2,q1⟩;unfold sqfM;rw[if_pos ⟨bI_ hb (by decide),by omega⟩,g1,Option.bind_some,if_pos ⟨z0,by omega,by omega,by omega⟩];have:=eE_ (divP p g).1;rw[←this];unfold dg at e1 e2;omega
theorem lO_{p:List Rat}(np:nz p)(hl:(trimQ p).length≤7)(hp:p.length≤1000)(hb:bdL p 20):∃c,b9_ 9 p=some c∧okCnt c∧c.ch.length≤8∧(∀q∈c.ch,nz q∧q.length≤7∧bdL q 20000000)∧nz c.p∧c.p.length≤7∧bdL c.p 140168:=by
 obtain⟨s,s1,s2,s3,s4,s5⟩:=pn_ np hl hp hb;have hst:=aD_ s;have hsp:=List.length_pos_iff.2 s2;obtain⟨p1,p2⟩:=s4.prim s2 (by decide);obtain⟨c,c0,hc⟩:=fL_ s2;obtain⟨d1,d2,_⟩:=dG_ s2 (show c≠0 by grind) hc
 have hpn:(trimQ (primP s)).length=(trimQ s).length:=by
  have a1:=List.length_pos_iff.2 d1;unfold dg at d2;omega
 have hpl:(primP s).length=(trimQ (primP s)).length:=by unfold primP;rw[eD_]
 have hdl:=dV_ s2;have hdt:trimQ (ao_ s)=ao_ s:=aY_ _;have hd:=iC_ (by omega) s5 (by decide) s4;have hC:=cB_all;simp only[List.all_eq_true,List.mem_range] at hC;obtain⟨out,o1,o2,o3⟩:=iK_ 9 9 _ _ 140168 140172 140172 20000000 (primP s) (ao_ s) [primP s] (hC (trimQ s).length (by omega) (ao_ s).length hdl) hpn (by grind) rfl p1 p2 hd.2 hd.1 (by decide) (by decide) (by decide) (by omega) (by omega);have hmx:=bz_ s5 (by decide);have hmul:=Nat.mul_le_mul (show s.length+4≤11 by omega) hmx
 have hst':e1_ 9 s=some out:=by
  unfold e1_;rw[if_pos ⟨bI_ s5 (by decide),⟨by omega,by omega⟩,s2⟩];grind
 have hall:∀q∈out,nz q∧q.length≤7∧bdL q 20000000:=fun q hq=>by
  rcases o3 q hq with h|⟨a,b,d⟩
  rw[List.mem_singleton.1 h];exact⟨d1,by omega,fun x hx=>Nat.le_trans (p1 x hx) (by decide)⟩;grind
 rw[List.length_singleton] at o2;have hok:okCnt ⟨s,out,chL (out.map sgI) 0 0⟩:=⟨fun q hq=>⟨(hall q hq).1,by grind⟩,by grind,rfl⟩;refine⟨⟨s,out,chL (out.map sgI) 0 0⟩,?_,hok,by grind,hall,s2,s3,s5⟩;unfold b9_;grind
def gsz:Nat→List Rat→List Rat→Nat→Prop
 |0,_,_,_=>False
 |f+1,p,q,B=>bdL p B∧(nz q→bdL q B∧gsz f q (a4_ (divP p q).2) B)
theorem hG_top{f m n s t X:Nat}(h:hG f m n s t X=true)(h0:n≠0):t≤X:=by
 cases f with
 |zero=>cases h
 |succ f=>
  rw[hG,if_neg h0] at h;simp only[Bool.and_eq_true,List.all_eq_true,List.mem_range] at h;have:=h.2 0 (by omega);cases f with
  |zero=>cases this
  |succ f=>
   rw[hG] at this;grind
theorem qs_:∀f m n s t X (p q:List Rat),hG f m n s t X=true→(trimQ p).length=m→(trimQ q).length=n→bdL p s→bdL q t→Ht p s→Ht q t→1≤s→1≤t→s≤X→gsz f p q X
 |0,_,_,_,_,_,_,_,h,_,_,_,_,_,_,_,_,_=>by cases h
 |f+1,m,n,s,t,X,p,q,h,hm,hn,hp,hq,kp,kq,hs,ht,hX=>by
  have htop:=hG_top h;rw[hG] at h;refine⟨fun x hx=>Nat.le_trans (hp x hx) hX,fun hq0=>?_⟩;have h0:n≠0:=by have:=List.length_pos_iff.2 hq0;omega
  have htX:=htop h0;rw[if_neg h0] at h;simp only[Bool.and_eq_true,List.all_eq_true,List.mem_range] at h;obtain⟨hL,hk⟩:=h;have hd:=(ks_ kp kq hq0).2;rw[hm,hn] at hd;obtain⟨b1,b2⟩:=hd.monic (by omega);have hkn:(trimQ (divP p q).2).length< n:=by rw[←hn];exact(ff_ p q hq0).2
  have hmn:(trimQ (a4_ (divP p q).2)).length=(trimQ (divP p q).2).length:=by
   by_cases hz:trimQ (divP p q).2=[];unfold a4_;rw[hz];rfl;unfold a4_;rw[if_neg hz];exact hW_ fun e=>by have:=Rat.div_mul_cancel (a:=1) (bj_ hz);grind
  exact⟨fun x hx=>Nat.le_trans (hq x hx) htX,qs_ f n _ t _ X q _ (hk _ hkn) hn hmn hq b1 kq b2 ht (by omega) htX⟩
theorem root_dv{g:List Rat}{a:Rat}(h:evalP g a=0):∃w:List Rat,∀x,evalP g x=evalP w x* evalP [-a,1] x:=by
 have hd:nz [-a,1]:=by
  intro e;have:=trim_nil_iff.1 e 1;rw[bq_,bD_] at this;grind
 have hdd:dg [-a,1]=1:=(eJ_ (n:=1) ⟨by rw[bq_,bD_];grind,fun i hi=>by
  obtain⟨j,rfl⟩:∃j,i=j+2:=⟨i- 2,by omega⟩;rfl⟩).2.1
 obtain⟨m1,m2⟩:=dC_ g hd
 have hr:∀x,evalP (md g [-a,1]) x=0:=by
  by_cases hn:nz (md g [-a,1]);obtain⟨c,c0,hc⟩:=g1_ hn (by grind);have:=m1 a;rw[jI_] at this;exact absurd (by grind) c0;exact cR_ hn
 exact⟨(divP g [-a,1]).1,fun x=>by grind⟩
theorem root_sqf{p s g:List Rat}(hp:nz p)(h1:∀x,evalP p x=evalP s x* evalP g x)(h2:Dv g (ao_ p)){a:Rat}(ha:evalP p a=0):evalP s a=0:=by
 by_cases hs:evalP s a=0;exact hs;exfalso;obtain⟨n1,n2⟩:=cJ_ h1 hp;obtain⟨v,hv⟩:=h2
 have hdn:nz [-a,1]:=by
  intro e;have:=trim_nil_iff.1 e 1;rw[bq_,bD_] at this;grind
 have hdd:dg [-a,1]=1:=(eJ_ (n:=1) ⟨by rw[bq_,bD_];grind,fun i hi=>by
  obtain⟨j,rfl⟩:∃j,i=j+2:=⟨i- 2,by omega⟩;rfl⟩).2.1
 have hda:evalP [-a,1] a=0:=by rw[jI_];grind
 have hdv:∀x,dvE [-a,1] x=1:=fun x=>by
  rw[bp_,bp_,al_,am_,show dvE [] x=0 from rfl];grind
 have key:∀k,∃w:List Rat,∀x,evalP g x=evalP w x* evalP (pw [-a,1] k) x:=by
  intro k
  induction k with
  |zero=>exact⟨g,fun x=>by rw[pw,al_,am_];grind⟩
  |succ k ihk=>
   obtain⟨w,hw⟩:=ihk
   have hwa:evalP w a=0:=by
    cases k with
    |zero=>
     have e:=hw a;rw[pw,al_,am_] at e;grind
    |succ k=>
     obtain⟨W,hW⟩:∃W,W=mulP s w:=⟨_,rfl⟩;have q1:∀x,evalP p x=evalP W x* evalP (pw [-a,1] (k+1)) x:=fun x=>by rw[h1,hw,hW,ax_];grind
     have q2:∀x,evalP (ao_ p) x=dvE W x* evalP (pw [-a,1] (k+1)) x+evalP W x* dvE (pw [-a,1] (k+1)) x:=fun x=>by
      rw[aI_,gN_ (q:=mulP W (pw [-a,1] (k+1))) (fun x=>by rw[q1,ax_]) x,fZ_]
     obtain⟨Z,hZ⟩:∃Z,Z=subP (aw_ W (((k+1:Nat):Int):Rat)) (mulP (subP (mulP v w) (derL W)) [-a,1]):=⟨_,rfl⟩
     have q3:∀x,evalP Z x* evalP (pw [-a,1] k) x=0:=fun x=>by
      have e1:=q2 x;have e2:=pw_dv [-a,1] k x;have e4:evalP (pw [-a,1] (k+1)) x=evalP (pw [-a,1] k) x* evalP [-a,1] x:=ax_ _ _ _;rw[hv,hw,e2,hdv,e4] at e1;rw[hZ,a8_,an_,ax_,a8_,ax_,er_];grind
     have q4:¬nz Z:=fun hz=>by
      have:=(dg_mul' hz (pw_dg hdn k).1 (r:=[]) (fun x=>by rw[q3,am_])).1;exact this rfl
     have q5:=cR_ q4 a;rw[hZ,a8_,an_,ax_,hda,hW,ax_] at q5;have q6:evalP s a* evalP w a* (((k+1:Nat):Int):Rat)=0:=by grind
     rcases Rat.mul_eq_zero.1 q6 with e|e
     exact(Rat.mul_eq_zero.1 e).resolve_left hs;have:((k+1:Nat):Int)=0:=by exact_mod_cast e
     omega
   obtain⟨u,hu⟩:=root_dv hwa;exact⟨u,fun x=>by rw[hw,hu,pw,ax_];grind⟩
 obtain⟨w,hw⟩:=key (dg g+1);obtain⟨m1,m2⟩:=cJ_ hw n2;have m3:=(dg_mul' m1 m2 hw).2.1;rw[(pw_dg hdn _).2,hdd] at m3;omega
theorem po_{f:Nat}{p s:List Rat}(h:sqfM f p=some s)(hp:nz p)(a:Rat):evalP s a=0↔evalP p a=0:=by
 unfold sqfM at h;split at h;cases hg:gcdM f p (ao_ p) with
 |none=>grind
 |some g=>
  rw[hg,Option.bind_some] at h;split at h;cases h;obtain⟨g0,g1,g2,a',b,g3⟩:=eN_ f _ _ _ hg (.inl hp);obtain⟨m1,m2⟩:=dC_ p g0;obtain⟨u,hu⟩:=g1;have hm:=ib_ (u:=u) (v:=[]) g0 (fun x=>by rw[hu x,am_];grind) (fun e=>absurd rfl e)
  have hs:∀x,evalP p x=evalP (divP p g).1 x* evalP g x:=fun x=>by
   have:=m1 x;rw[hm x,am_] at this;grind
  obtain⟨k,k',hk,m⟩:=ia_ (divP p g).1;have hk0:k≠0:=fun e=>by grind
  rw[m];constructor;intro e;rcases Rat.mul_eq_zero.1 e with e|e
  grind;exact absurd e hk0;intro e;rw[root_sqf hp hs g2 e];grind;cases h
 cases h
theorem boL_qs{lead:Rat}{s:Nat}(hl:qs lead≤s):∀(l:List Rat) (m:Rat),bdL l s→qs m≤2* s+1→qs (boL lead l m)≤2* s+1
 |[],m,_,h=>h
 |c::l,m,hb,h=>by
  refine boL_qs hl l _ (fun q hq=>hb q (List.mem_cons_of_mem _ hq)) (mn_ (fun x hx=>?_) (Nat.le_add_left 1 _));have h1:=hb c (List.mem_cons_self ..);have h2:=d6_ c lead;rcases List.mem_cons.1 hx with rfl|hx
  exact h;rw[List.mem_singleton.1 hx,pL_];omega
theorem bound_qs{p:List Rat}{s:Nat}(h:bdL p s)(hs:1≤s):qs (a1_ p)≤2* s+3:=by
 have h1:=boL_qs (lead_qs h hs) ((trimQ p).take ((trimQ p).length- 1)) 0 (fun q hq=>h q (ba_ (List.mem_of_mem_take hq))) (Nat.le_trans (by decide:qs 0≤1) (Nat.le_add_left 1 _));have h2:=c3_ (boL (leadP p) ((trimQ p).take ((trimQ p).length- 1)) 0) 1;have h3:=qs_one;unfold a1_;omega
structure CN (p:List Rat)(c:Cnt):Prop where
 np:nz p
 pl:p.length≤7
 pb:bdL p 20
 hc:b9_ 9 p=some c
 ok:okCnt c
 cl:c.ch.length≤8
 all:∀q∈c.ch,nz q∧q.length≤7∧bdL q 20000000
 sn:nz c.p
 sl:c.p.length≤7
 sb:bdL c.p 140168
 sz:gsz 9 p (ao_ p) 20000
 gb:∀g,gcdM 9 p (ao_ p)=some g→bdL g 20000∧g.length≤1000
theorem CN.ex{p:List Rat}(np:nz p)(hl:p.length≤7)(hb:bdL p 20):∃c,CN p c:=by
 have htl:=aD_ p;obtain⟨c,h1,h2,h3,h4,h5,h6,h7⟩:=lO_ np (by omega) (by omega) hb;have hH:Ht p 161:=(Ht.of (s:=20) (p:=trimQ p) fun q hq=>hb q (ba_ hq)).untrim.mono (by omega);have hdl:=dV_ np;have hdt:trimQ (ao_ p)=ao_ p:=aY_ _;have hd0:=iC_ (by omega) hb (by decide) hH;have hd:bdL (ao_ p) 165∧Ht (ao_ p) 165:=⟨fun x hx=>Nat.le_trans (hd0.1 x hx) (by decide),hd0.2⟩;have hg:=hG_all;simp only[List.all_eq_true,List.mem_range] at hg;have hG:=hg (trimQ p).length (by omega) (ao_ p).length hdl;have hb':bdL p 161:=fun x hx=>Nat.le_trans (hb x hx) (by decide);refine⟨c,np,hl,hb,h1,h2,h3,h4,h5,h6,h7,qs_ 9 _ _ 161 165 20000 p (ao_ p) hG rfl (by grind) hb' hd.1 hH hd.2 (by decide) (by decide) (by decide),fun g hgm=>?_⟩;obtain⟨g',g1,g2,g3,g4⟩:=io_ 9 _ _ 161 165 20000 p (ao_ p) hG rfl (by grind) hb' hd.1 hH hd.2 (by decide) (by decide) (by omega) (by omega) (by decide);grind
theorem CN.upto{p:List Rat}{c:Cnt}(h:CN p c){x:Rat}(hx:qs x≤1000000):okUp c x:=⟨h.ok,fun q hq=>by
 obtain⟨_,a,b⟩:=h.all q hq;have:=bz_ b (by decide);have h2:=Nat.mul_le_mul a (show mxL q+qs x+1≤21000001 by omega);exact⟨by omega,by omega⟩⟩
theorem CN.below{p:List Rat}{c:Cnt}(h:CN p c){x:Rat}(hx:qs x≤1000000):okBe c x:=⟨h.upto hx,by
 have:=bz_ h.sb (by decide);have h2:=Nat.mul_le_mul h.sl (show mxL c.p+qs x+1≤21000001 by omega);have h3:=h.sl;exact⟨by omega,by omega⟩⟩
theorem CN.root{p:List Rat}{c:Cnt}(h:CN p c)(a:Rat):evalP c.p a=0↔evalP p a=0:=po_ (cT_ h.hc h.np).2.1 h.np a
def Far(p:List Rat)(x y:Rat):Prop:=∃e:Rat,0< e∧∀z,x≤z→z≤y→e≤ab (evalP p z)
theorem Far.sub{p:List Rat}{x y x' y':Rat}(h:Far p x y)(hx:x≤x')(hy:y'≤y):Far p x' y':=by
 obtain⟨e,he,hf⟩:=h;exact⟨e,he,fun z a b=>hf z (by grind) (by grind)⟩
theorem rK_{x:Rat}(h:x≠0):0< ab x:=by unfold ab;grind
theorem gZ_:ab 0=0:=by decide+kernel
theorem sgE_ne{p:List Rat}{x:Rat}:sgE x p≠0↔evalP p x≠0:=by
 rcases aS_ x p with⟨a,b⟩|⟨a,b⟩|⟨a,b⟩
 exact⟨fun _=>by grind,fun _=>by omega⟩;exact⟨fun _=>by grind,fun _=>by omega⟩;grind
theorem Far.ne{p:List Rat}{x y z:Rat}(h:Far p x y)(h1:x≤z)(h2:z≤y):evalP p z≠0:=fun g=>by
 obtain⟨e,he,hf⟩:=h;have:=hf z h1 h2;rw[g,gZ_] at this;grind
theorem Far.sg{p:List Rat}{x y z:Rat}(h:Far p x y)(h1:x≤z)(h2:z≤y):sgE z p=sgE x p:=by
 obtain⟨e,he,hf⟩:=h;obtain⟨h,h0,hk⟩:=keep p (fo_ x y) he
 have:=way (f:=fun z=>sgE z p) (· = ·) (fun _=>rfl) (fun _ _ _=>Eq.trans) h0 h1 fun u v a b c d=>
  (hk u v (ab_in a (by grind)) (ab_in (by grind) (by grind)) (rJ_ b d) (hf u a (by grind))).1.symm
 grind
theorem Far.dv{d p:List Rat}{x y:Rat}(h:Far p x y)(hd:Dv d p):Far d x y:=by
 obtain⟨e,he,hf⟩:=h;obtain⟨w,hw⟩:=hd;have hR:=fo_ x y;have hM:=bV_nn hR w;obtain⟨e',p',q'⟩:=part e (d:=bV (ab x+ab y) w+1) he (by grind);refine⟨e',p',fun z a b=>?_⟩;by_cases g:e'≤ab (evalP d z);exact g;have h1:=hf z a b;rw[hw,bx_] at h1;have h2:=bC_ (cr_ hR (ab_in a b) w) (show ab (evalP d z)≤e' by grind) (ab_nn _) hM;grind
theorem Far.mul{p q r:List Rat}{x y:Rat}(hp:Far p x y)(hq:Far q x y)(h:∀z,evalP r z=evalP p z* evalP q z):Far r x y:=by
 obtain⟨e,he,hf⟩:=hp;obtain⟨g,hg,hG⟩:=hq;refine⟨e* g,Rat.mul_pos he hg,fun z a b=>?_⟩;rw[h,bx_];exact bC_ (hf z a b) (hG z a b) (by grind) (ab_nn _)
theorem Far.const{p:List Rat}{c x y:Rat}(hc:c≠0)(h:∀z,evalP p z=c):Far p x y:=⟨ab c,rK_ hc,fun z _ _=>by grind⟩
theorem Far.k{p r:List Rat}{k x y:Rat}(hk:k≠0)(h:∀z,evalP r z=evalP p z* k)(hp:Far p x y):Far r x y:=
 hp.mul (Far.const (p:=[k]) hk fun z=>by rw[al_,am_];grind) fun z=>by rw[al_,am_];grind
def SF(p s:List Rat):Prop:=∃g t a b:List Rat,nz g∧(∀x,evalP p x=evalP s x* evalP g x)∧(∀x,dvE p x=evalP t x* evalP g x)∧∀x,evalP g x=evalP a x* evalP p x+evalP b x* dvE p x
theorem SF.ex{p:List Rat}(hp:nz p):∃s,SF p s:=by
 obtain⟨g,a,b,g0,⟨s,hs⟩,⟨t,ht⟩,hg⟩:=bez _ p (ao_ p) rfl (.inl hp);exact⟨s,g,t,a,b,g0,hs,fun x=>by rw[←aI_,ht],fun x=>by rw[hg,aI_]⟩
theorem rx_{g u v:List Rat}(hg:nz g)(h:∀x,evalP g x* evalP u x=evalP g x* evalP v x)(x:Rat):evalP u x=evalP v x:=by
 have hs:∀x,evalP g x* evalP (subP u v) x=0:=fun x=>by rw[a8_];grind
 have n:¬nz (subP u v):=fun e=>by
  have:=(dg_mul' (r:=[]) hg e fun x=>by rw[hs,am_]).1;exact this rfl
 have:=cR_ n x;rw[a8_] at this;grind
theorem nU_{p s g:List Rat}(h:∀x,evalP p x=evalP s x* evalP g x)(x:Rat):dvE p x=dvE s x* evalP g x+evalP s x* dvE g x:=by
 rw[←fZ_];exact gN_ (fun x=>by rw[h,ax_]) x
theorem SF.far:∀(n:Nat) (p s:List Rat),dg p≤n→nz p→SF p s→∀x y,Far s x y→Far p x y
 |n,p,s,hn,hp,⟨g,t,a,b,g0,h1,h2,h3⟩,x,y,hf=>by
  have gp:Dv g p:=⟨s,h1⟩;by_cases hd:dg g=0;obtain⟨c,c0,hc⟩:=g1_ g0 hd;exact hf.mul (Far.const c0 hc) h1;have hpd:dg p≠0:=fun e=>by have:=gp.dg hp;omega
  obtain⟨pn,pl⟩:=iD_ hpd hp;have gl:dg g≤dg (ao_ p):=Dv.dg (p:=ao_ p) ⟨t,fun x=>by rw[aI_,h2]⟩ pn;cases n with
  |zero=>omega
  |succ n=>
  obtain⟨d,hS⟩:=SF.ex g0;have hS':=hS;obtain⟨g1,e,a1,b1,k0,k1,k2,k3⟩:=hS'
  have one:∀x,evalP (addP (mulP a1 d) (mulP b1 e)) x=evalP [1] x:=rx_ k0 fun x=>by
   have:=k3 x;rw[k1,k2] at this;rw[bl_,ax_,ax_,al_,am_];grind
  have two:∀x,evalP (mulP s e) x=evalP (mulP (subP t (ao_ s)) d) x:=rx_ k0 fun x=>by
   have r1:=h2 x;have r2:=nU_ h1 x;have r3:evalP g x* (evalP s x* evalP e x- (evalP t x- dvE s x) * evalP d x)=0:=by grind
   have r7:evalP g1 x* (evalP s x* evalP e x)=evalP g1 x* ((evalP t x- dvE s x) * evalP d x):=by grind
   rw[ax_,ax_,a8_,aI_];grind
  have ds:Dv d s:=⟨addP (mulP a1 s) (mulP b1 (subP t (ao_ s))),fun x=>by
   have o:=one x;have w:=two x;rw[bl_,ax_,ax_,al_,am_] at o;rw[ax_,ax_] at w;rw[bl_,ax_,ax_];grind⟩
  exact hf.mul (SF.far n g d (by omega) g0 hS x y (hf.dv ds)) h1
theorem es_{f:Nat}{p:List Rat}{c:Cnt}(h:b9_ f p=some c)(hp:nz p):SF p c.p∧Dv c.p p∧∃(L:List (List Rat)) (k:Rat),c.ch=primP c.p::L∧0< k∧(∀x,evalP (primP c.p) x=evalP c.p x* k)∧Sq (primP c.p) L:=by
 obtain⟨s0,hsq,hst,_,_,_⟩:=cT_ h hp;have hcnt:=h;have hfree:=hQ_ hsq hp
 have hSF:SF p c.p∧Dv c.p p:=by
  unfold sqfM at hsq;split at hsq;cases hg:gcdM f p (ao_ p) with
  |none=>grind
  |some g=>
   rw[hg,Option.bind_some] at hsq;split at hsq;have hsq':=Option.some.inj hsq;obtain⟨g0,g1,⟨t,ht⟩,a,b,g3⟩:=eN_ f _ _ _ hg (.inl hp);obtain⟨m1,m2⟩:=dC_ p g0;obtain⟨u,hu⟩:=g1;have hm:=ib_ (u:=u) (v:=[]) g0 (fun x=>by rw[hu x,am_];grind) (fun e=>absurd rfl e)
   have hs:∀x,evalP p x=evalP (divP p g).1 x* evalP g x:=fun x=>by
    have:=m1 x;rw[hm x,am_] at this;grind
   obtain⟨k,k',hk,m⟩:=ia_ (divP p g).1;rw[hsq'] at m;have e1:∀x,evalP p x=evalP c.p x* evalP (aw_ g k') x:=fun x=>by rw[hs,m,an_];grind
   have hk':k'≠0:=fun e=>by grind
   refine⟨⟨aw_ g k',aw_ t k,aw_ a k',aw_ b k',(dG_ g0 hk' (an_ g k')).1,e1,fun x=>?_,fun x=>?_⟩,aw_ g k',fun x=>by grind⟩;rw[an_,an_,←aI_,ht];grind;rw[an_,an_,an_,g3,aI_];grind;grind
  grind
 refine⟨hSF.1,hSF.2,?_⟩;unfold e1_ at hst;split at hst;obtain⟨L,e,hL⟩:=f1_ _ _ _ _ _ _ hst;obtain⟨k,k0,hk⟩:=fL_ s0;have hkne:k≠0:=by grind
 have hu0:nz (primP c.p):=(dG_ s0 hkne hk).1;have hk1:k* (1/ k)=1:=by grind
 have hk2:0< 1/ k:=by
  obtain⟨m,m0,m1⟩:=part 1 (d:=k) (by decide+kernel) k0;rw[←m1,Rat.mul_div_cancel hkne];exact m0
 obtain⟨c1,c2⟩:=hL.ch hu0 fun d d0 d1 d2=>hfree.2 d d0 (d1.scale (k:=1/ k) fun x=>by rw[hk];generalize 1/ k=m at *;grind) d2;refine⟨L,k,e,k0,hk,c1,fun v M hv=>?_⟩;obtain⟨c',c0,hv⟩:=c2 v M hv;refine⟨c'* (1/ k),Rat.mul_pos c0 hk2,fun x=>?_⟩;rw[hv,aI_,dvE_k hk x];generalize 1/ k=m at *
 grind;grind
section
variable {f:Nat}{p:List Rat}{c:Cnt}(h:b9_ f p=some c)(hp:nz p)
include h hp
theorem cX_{x y:Rat}(hxy:x≤y):uptoV c x≤uptoV c y:=(cT_ h hp).2.2.2.2.2 x y hxy
theorem cj_{w x:Rat}(hwx:w< x):uptoV c w≤aM_ c x:=by
 obtain⟨_,_,L,k,e,k0,hk,hS⟩:=es_ h hp;unfold aM_;by_cases g:evalP c.p x=0;have:=hS.root hwx (by grind);unfold uptoV;rw[e];unfold chV at this;omega;rw[if_neg g];exact cX_ h hp (by grind)
theorem cn_(x:Rat):aM_ c x≤uptoV c x∧uptoV c x≤aM_ c x+1:=by unfold aM_;grind
theorem c9_{x y:Rat}(hxy:x≤y):uptoV c y=aM_ c x↔Far p x y:=by
 obtain⟨hSF,hdv,L,k,e,k0,hk,hS⟩:=es_ h hp;have kn:k≠0:=by grind
 have hm:=cX_ h hp hxy;have hch:∀z,uptoV c z=c.far- chV (primP c.p::L) z:=fun z=>by unfold uptoV chV;rw[e]
 constructor;intro g;have hx:evalP c.p x≠0:=fun g'=>by unfold aM_ at g;grind
 unfold aM_ at g;rw[if_neg hx,hch,hch] at g;obtain⟨ε,ε0,hε⟩:=hS.away hxy (fun g'=>hx (by grind)) (by omega);have hF:Far (primP c.p) x y:=⟨ε,ε0,fun z a b=>(hε z a b).1⟩;have hd:Dv c.p (primP c.p):=⟨[k],fun x=>by rw[al_,am_];grind⟩;exact SF.far _ p c.p (Nat.le_refl _) hp hSF x y (hF.dv hd);intro hF;have hc:=hF.dv hdv;have hu:Far (primP c.p) x y:=hc.k kn hk;obtain⟨ε,ε0,hε⟩:=hu;have:=hS.calm ε0 hxy hε;unfold aM_;rw[if_neg (hc.ne (by grind) hxy),hch,hch];omega
end
def lag(v:List Rat):Nat→Rat
 |0=>0
 |m+1=>coP v m
theorem n4_(v:List Rat)(c:Rat)(n:Nat):coP (mulP v [c,1]) n=coP v n* c+lag v n:=by
 have e:trimQ (mulP v [c,1])=trimQ (mulP [c,1] v):=c6_ fun x=>by rw[ax_,ax_];grind
 rw[trim_iff.1 e n,gR_];show coP (addL (ci_ v c) (0::addL (ci_ v 1) (0::[]))) n=_;rw[da_,cE_];cases n with
 |zero=>rw[bD_];rfl
 |succ m=>
  rw[bq_,da_,cE_];have:coP [(0:Rat)] m=0:=by cases m <;> rfl
  rw[this];show _+(coP v m* 1+0)=_+coP v m;grind
theorem lh_{v:List Rat}{c:Rat}{B t:Nat}(hv:bdL v B)(hB:1≤B)(hc:qs c≤t):bdL (mulP v [c,1]) (2* B+t+1):=
 ew_ fun i=>by
  rw[n4_];have h1:=bL_ hv hB i;have h2:=bK_ (coP v i) c;have h3:=c3_ (coP v i* c) (lag v i)
  have h4:qs (lag v i)≤B:=by
   cases i with
   |zero=>exact Nat.le_trans (by decide:qs 0≤1) hB
   |succ m=>exact bL_ hv hB m
  omega
theorem eK_(v:List Rat)(c:Rat):(mulP v [c,1]).length≤v.length+1:=by
 by_cases h:v=[];subst h;unfold mulP;simp;have:=e6_ v [c,1] h;simpa using this
theorem dF_(p:List Rat):(aj_ p).length≤p.length+1:=by
 have:=aD_ (tabP (p.length+1) fun i=>if i=0 then 0 else coP p (i- 1) / ((i:Nat):Int));simp at this;unfold aj_;omega
theorem eG_(p q:List Rat):(subP p q).length≤max p.length q.length:=by
 have h1:=ds_ p (aw_ q (-1));have h2:=a3_ q (-1);unfold subP;omega
def shP(i:Nat)(v:List Rat):List Rat:=List.replicate i 0++v
theorem oq_(i:Nat)(v:List Rat):(shP i v).length=i+v.length:=by simp[shP]
theorem shP_succ(i:Nat)(v:List Rat):shP (i+1) v=0::shP i v:=by simp[shP,List.replicate_succ]
theorem nO_(v:List Rat)(x:Rat):∀i,evalP (shP i v) x=evalP v x* x^ i
 |0=>by simp[shP]
 |i+1=>by
  rw[shP_succ,al_,nO_ v x i,Rat.pow_succ];grind
def mR(p q:List Rat):Nat→List Rat
 |0=>[]
 |n+1=>addP (mR p q n) (shP n (aw_ p (coP q n)))
theorem nP_(p q:List Rat)(x:Rat):∀n,n≤q.length→evalP (mR p q n) x=evalP p x* evalP (q.take n) x
 |0,_=>by simp[mR,am_]
 |n+1,h=>by
  rw[mR,bl_,nP_ p q x n (by omega),nO_,an_,dK_ q x n (by omega)];grind
theorem trim_mR(p q:List Rat):∀n,trimQ (mR p q n)=mR p q n
 |0=>rfl
 |n+1=>aY_ _
theorem o9_(p q:List Rat):trimQ (mulP p q)=mulP p q:=by
 unfold mulP;split;rfl;exact aY_ _
theorem mR_mul(p q:List Rat):mR p q q.length=mulP p q:=by
 rw[←trim_mR,←o9_];refine c6_ fun x=>?_;rw[nP_ p q x _ (Nat.le_refl _),List.take_length,ax_]
theorem mR_len(p q:List Rat):∀n,(mR p q n).length≤n+p.length
 |0=>Nat.zero_le _
 |n+1=>by
  have h1:=mR_len p q n;have h2:=ds_ (mR p q n) (shP n (aw_ p (coP q n)));have h3:=a3_ p (coP q n);rw[oq_] at h2;rw[mR];omega
theorem trim_div(p q:List Rat):trimQ (divP p q).1=(divP p q).1∧trimQ (divP p q).2=(divP p q).2:=⟨aY_ _,aY_ _⟩
def powP(p:List Rat):Nat→List Rat
 |0=>a0_ 1
 |n+1=>mulP (powP p n) p
def pB(L:Nat):Nat→Nat
 |0=>1
 |n+1=>(n* L+1) * (pB L n+257)+1
theorem mulP_le(p q:List Rat):(mulP p q).length≤p.length+q.length:=by
 have h:=mR_len p q q.length;rw[mR_mul] at h;omega
theorem j9_(p:List Rat):∀n,(powP p n).length≤n* p.length+1
 |0=>by
  have h:=aD_ [1];have e:([1]:List Rat).length=1:=rfl;show(trimQ [1]).length≤_;omega
 |n+1=>by
  have h1:=j9_ p n;have h2:=mulP_le (powP p n) p;rw[powP,Nat.succ_mul];omega
theorem pB_pos(L:Nat):∀n,1≤pB L n
 |0=>Nat.le_refl _
 |n+1=>Nat.le_add_left _ _
theorem pS_{p:List Rat}(h:bdL p 256):∀n,bdL (powP p n) (pB p.length n)
 |0=>fun q hq=>by
  have:=ba_ (l:=[1]) hq;rw[List.mem_singleton.1 this];show qs 1≤1;decide
 |n+1=>fun q hq=>by
  have h1:=p5_ (pS_ h n) h (pB_pos _ _) (by decide) q hq;have h2:=Nat.mul_le_mul_right (pB p.length n+256+1) (j9_ p n);show qs q≤(n* p.length+1) * (pB p.length n+257)+1;obtain⟨a,ha⟩:∃a,a=(powP p n).length* (pB p.length n+256+1):=⟨_,rfl⟩;obtain⟨b,hb⟩:∃b,b=(n* p.length+1) * (pB p.length n+256+1):=⟨_,rfl⟩;rw[←ha] at h1 h2;rw[←hb] at h2;rw[show pB p.length n+257=pB p.length n+256+1 from rfl,←hb];omega
def ofQ(p m:List Rat):Nat→Rat
 |0=>0
 |n+1=>ofQ p m n+coP p n* coP m n
theorem pY_{p m:List Rat}{s t:Nat}(hp:bdL p s)(hm:bdL m t)(hs:1≤s)(ht:1≤t):∀n,qs (ofQ p m n)≤n* (s+t+1)+1
 |0=>by rw[Nat.zero_mul];exact(by decide:qs 0≤0+1)
 |n+1=>by
  have h1:=pY_ hp hm hs ht n;have h2:=c3_ (ofQ p m n) (coP p n* coP m n);have h3:=bK_ (coP p n) (coP m n);have h4:=bL_ hp hs n;have h5:=bL_ hm ht n;rw[ofQ,Nat.succ_mul];omega
def gK(f:List Rat):Nat→List Rat
 |0=>f
 |k+1=>mulP (gK f k) [0,1]
def moQ(f:List Rat)(s:Sp)(k:Nat):Rat:=evalP (aj_ (gK f k)) s.2- evalP (aj_ (gK f k)) s.1
def okMo(f:List Rat)(s:Sp)(k:Nat):Prop:=smL (gK f k)∧(gK f k).length≤1000000∧b2_ (aj_ (gK f k)) s.1∧b2_ (aj_ (gK f k)) s.2∧okMul (gK f k) [0,1]
def sqL(sq:Nat→Rat)(n:Nat):List Rat:=(List.range n).map sq
theorem he_(sq:Nat→Rat)(n:Nat):sqL sq (n+1)=sqL sq n++[sq n]:=by simp[sqL,List.range_succ]
@[simp] theorem sqL_length (sq:Nat→Rat)(n:Nat):(sqL sq n).length=n:=by simp[sqL]
def ofP(m p:List Rat):Rat:=ofQ (trimQ p) m (trimQ p).length
def okOf(m p:List Rat):Prop:=p.length≤1000000∧(trimQ p).length≤m.length∧(p.length+2) * (mxL p+mxL m+1)≤137438953472
instance (m p:List Rat):Decidable (okOf m p):=inferInstanceAs (Decidable (_∧_∧_))
def ldN(m p:List Rat):Rat:=ofP m (mulP p p)
def ldA(m p:List Rat):Rat:=ofP m (mulP (mulP p p) [0,1]) / ldN m p
def ldr(m:List Rat):Nat→List Rat×List Rat×Rat
 |0=>([1],[],0)
 |k+1=>(subP (mulP (ldr m k).1 [-ldA m (ldr m k).1,1]) (aw_ (ldr m k).2.1 (if k=0 then 0 else ldN m (ldr m k).1/ (ldr m k).2.2)),(ldr m k).1,ldN m (ldr m k).1)
def ldB(m:List Rat)(k:Nat):Rat:=if k=0 then 0 else ldN m (ldr m k).1/ (ldr m k).2.2
def ldAk(m:List Rat)(k:Nat):Rat:=ldA m (ldr m k).1
def okLd(m:List Rat)(k:Nat):Prop:=
 okMul (ldr m k).1 (ldr m k).1∧okOf m (mulP (ldr m k).1 (ldr m k).1)∧0< ldN m (ldr m k).1∧okMul (mulP (ldr m k).1 (ldr m k).1) [0,1]∧okOf m (mulP (mulP (ldr m k).1 (ldr m k).1) [0,1])∧
 qs (ofP m (mulP (mulP (ldr m k).1 (ldr m k).1) [0,1]))+qs (ldN m (ldr m k).1)≤549755813888∧qs (ldN m (ldr m k).1)+qs (ldr m k).2.2≤549755813888∧
 okMul (ldr m k).1 [-ldAk m k,1]∧(∀q∈(ldr m k).2.1,sm q)∧sm (ldB m k)∧(∀q∈mulP (ldr m k).1 [-ldAk m k,1],sm q)∧(∀q∈aw_ (ldr m k).2.1 (ldB m k),sm q)∧
 (ldr m k).2.1.length≤1099511627776∧(mulP (ldr m k).1 [-ldAk m k,1]).length≤1099511627776∧(aw_ (ldr m k).2.1 (ldB m k)).length≤1099511627776
instance (m:List Rat) (k:Nat):Decidable (okLd m k):=by unfold okLd;infer_instance
def okBs(g nx a c:List Rat):Prop:=okDiv g nx∧okMul (divP g nx).1 c∧(∀q∈a,sm q)∧(∀q∈mulP (divP g nx).1 c,sm q)∧a.length≤1099511627776∧(mulP (divP g nx).1 c).length≤1099511627776
instance (g nx a c:List Rat):Decidable (okBs g nx a c):=by unfold okBs;infer_instance
def bzL:Nat→List Rat→List Rat→List Rat→List Rat→Option (List Rat×List Rat)
 |0,_,_,_,_=>none
 |f+1,g,nx,a,c=>if trimQ nx=[] then some (g,a) else if okBs g nx a c∧nx.length≤1099511627776 then bzL f nx (divP g nx).2 c (subP a (mulP (divP g nx).1 c)) else none
def bzG(g:List Rat):List Rat:=aw_ g (((1:Int):Rat) / leadP g)
def bzA(q g a:List Rat):List Rat:=(divP (aw_ a (((1:Int):Rat) / leadP g)) (divP q (bzG g)).1).2
def bzB(p q g a:List Rat):List Rat:=(divP (subP (bzG g) (mulP (bzA q g a) p)) q).1
def okBz(p q g a:List Rat):Prop:=
 trimQ g≠[]∧g.length≤1099511627776∧a.length≤1099511627776∧(∀x∈g,sm x)∧(∀x∈a,sm x)∧qs (leadP g)≤68719476736∧okDiv q (bzG g)∧trimQ (bzG g)≠[]∧
 okDiv (aw_ a (((1:Int):Rat) / leadP g)) (divP q (bzG g)).1∧trimQ (divP q (bzG g)).1≠[]∧okMul (bzA q g a) p∧(∀x∈bzG g,sm x)∧(∀x∈mulP (bzA q g a) p,sm x)∧
 (bzG g).length≤1099511627776∧(mulP (bzA q g a) p).length≤1099511627776∧okDiv (subP (bzG g) (mulP (bzA q g a) p)) q
instance (p q g a:List Rat):Decidable (okBz p q g a):=by unfold okBz;infer_instance
def tpV(p m:List Rat)(i:Nat):Nat→Rat
 |0=>0
 |j+1=>if i< j then tpV p m i j+coP p j* coP m (j- 1- i) else tpV p m i j
def tpI(p m:List Rat)(j i0 i:Nat):Rat:=if i< i0 then tpV p m i (j+1) else tpV p m i j
theorem tpI_0(p m:List Rat)(j:Nat):tpI p m j 0=fun i=>tpV p m i j:=rfl
theorem tpI_e(p m:List Rat)(j:Nat):tpI p m j j=fun i=>tpV p m i (j+1):=by
 funext i;unfold tpI;by_cases h:i< j;rw[if_pos h];rw[if_neg h,tpV,if_neg h]
theorem jX_{d i:Nat}(f:Nat→Rat)(h:i< d):(tabP d f)[i]?=some (f i):=by simp[tabP,h]
theorem tabP_set(d i:Nat)(f g:Nat→Rat)(h:i< d)(hg:∀x,x≠i→f x=g x):(tabP d f).set i (g i)=tabP d g:=by
 refine List.ext_getElem? fun x=>?_;rw[List.getElem?_set];by_cases e:i=x;subst e;simp[tabP,h];rw[if_neg e];by_cases hx:x< d;rw[jX_ f hx,jX_ g hx,hg x (fun e2=>e e2.symm)];simp_all
theorem tpI_set(p m:List Rat)(d j i:Nat)(hi:i< j)(hj:j≤d):(tabP d (tpI p m j i)).set i (tpV p m i j+coP p j* coP m (j- 1- i))=tabP d (tpI p m j (i+1)):=by
 have e:tpV p m i j+coP p j* coP m (j- 1- i)=tpI p m j (i+1) i:=by unfold tpI;rw[if_pos (Nat.lt_succ_self i),tpV,if_pos hi]
 rw[e];refine tabP_set d i _ _ (by omega) fun x hx=>?_;unfold tpI;grind
theorem tpV_bd{p m:List Rat}{s t:Nat}(hp:bdL p s)(hm:bdL m t)(hs:1≤s)(ht:1≤t)(i:Nat):∀j,qs (tpV p m i j)≤j* (s+t+1)+1
 |0=>by rw[Nat.zero_mul];exact(by decide:qs 0≤0+1)
 |j+1=>by
  have h1:=tpV_bd hp hm hs ht i j;have h2:=c3_ (tpV p m i j) (coP p j* coP m (j- 1- i));have h3:=bK_ (coP p j) (coP m (j- 1- i));have h4:=bL_ hp hs j;have h5:=bL_ hm ht (j- 1- i);rw[tpV];grind
def tpQ(p m:List Rat):List Rat:=tabP (p.length- 1) fun i=>tpV p m i p.length
theorem pg_(d:Nat)(p m:List Rat):tabP d (fun i=>tpV p m i 0)=List.replicate d 0:=by
 show(List.range d).map (fun _=>(0:Rat))=_;rw[List.map_const',List.length_range]
def apR(p w f:List Rat):List Rat:=(divP (mulP w (divP f p).2) p).2
def nwA(T:List Rat)(n:Nat)(out:List Rat)(k:Nat):Nat→Rat
 |0=>coP T (n- k) * ((k:Int):Rat)
 |i+1=>nwA T n out k i+coP T (n- (i+1)) * coP out (k- (i+1))
def suL(T:List Rat)(n:Nat):Nat→List Rat
 |0=>[((n:Int):Rat)]
 |k+1=>suL T n k++[-(nwA T n (suL T n k) (k+1) k)]
theorem ej_(T:List Rat)(n:Nat):∀k,(suL T n k).length=k+1
 |0=>rfl
 |k+1=>by rw[suL,List.length_append,ej_ T n k];rfl
def okSu(T:List Rat)(n k:Nat):Prop:=qs (coP T (n- (k+1)))+qs (((k+1:Nat):Int):Rat)≤549755813888∧
 ∀i,i< k→qs (coP T (n- (i+1)))+qs (coP (suL T n k) (k+1- (i+1)))≤549755813888∧qs (nwA T n (suL T n k) (k+1) i)+qs (coP T (n- (i+1)) * coP (suL T n k) (k+1- (i+1)))≤549755813888
def krS(e m:List Rat)(k:Nat):Nat→Rat
 |0=>0
 |j+1=>krS e m k j+coP e j* coP m (j+k)
def krE(m:List Rat)(n:Nat):Nat→List Rat
 |0=>List.replicate (n+1) 0++[((1:Int):Rat)]
 |k+1=>(krE m n k).set (n- k) (-(krS (krE m n k) m k (n+2) / coP m n))
def okKr(m:List Rat)(n k:Nat):Prop:=(∀j,j< n+2→qs (coP (krE m n k) j)+qs (coP m (j+k))≤549755813888∧qs (krS (krE m n k) m k j)+qs (coP (krE m n k) j* coP m (j+k))≤549755813888)∧
 qs (krS (krE m n k) m k (n+2))+qs (coP m n)≤549755813888
theorem dvE_add(p q:List Rat)(x:Rat):dvE (addP p q) x=dvE p x+dvE q x:=by
 rw[←eb_];exact ix_ (fun i=>by rw[db_,da_]) x
theorem rd_(a x:Rat):dvE (a0_ a) x=0:=by
 show dvE (trimQ [a]) x=0;rw[ix_ (q:=[a]) (aU_ [a]) x,bp_];show(0:Rat)+0* x=0;grind
theorem hy_(q:List Rat)(x:Rat):∀p,dvE (compP q p) x=dvE p (evalP q x) * dvE q x
 |[]=>by show(0:Rat)=0* _;grind
 |a::l=>by
  rw[compP,dvE_add,rd_,fZ_,hy_ q x l,bu_,bp_];grind
theorem dq_(u v x:Rat):evalP [u,v] x=u+v* x:=by rw[al_,al_,am_];grind
theorem dvE_uv(u v x:Rat):dvE [u,v] x=v:=by
 show(0* x+v)+(0+(0:Rat) * x) * x=v;grind
def itP(a b:Rat)(p:List Rat):Rat:=evalP (aj_ p) b- evalP (aj_ p) a
theorem g3_{p q:List Rat}(h:∀i,coP p i=coP q i)(x:Rat):evalP (aj_ p) x=evalP (aj_ q) x:=
 bZ_ (fun i=>by rw[bm_,bm_,h]) x
theorem jv_{p q:List Rat}(h:Eqv p q)(a b:Rat):itP a b p=itP a b q:=by
 have:=trim_iff.1 (eqv_trim.1 h);unfold itP;rw[g3_ this,g3_ this]
theorem qj_(a b:Rat)(p q:List Rat):itP a b (addP p q)=itP a b p+itP a b q:=by
 have e:∀x,evalP (aj_ (addP p q)) x=evalP (aj_ p) x+evalP (aj_ q) x:=fun x=>by
  rw[←bl_];refine bZ_ (fun i=>?_) x;rw[db_ (aj_ p),bm_,bm_,bm_,db_];grind
 unfold itP;grind
theorem eL_(a b:Rat)(p:List Rat)(k:Rat):itP a b (aw_ p k)=itP a b p* k:=by
 have e:∀x,evalP (aj_ (aw_ p k)) x=evalP (aj_ p) x* k:=fun x=>by
  rw[←an_];refine bZ_ (fun i=>?_) x;rw[bA_ (aj_ p),bm_,bm_,bA_];grind
 unfold itP;grind
theorem mH_(p:List Rat)(x:Rat):dvE (aj_ p) x=evalP p x:=by
 rw[←aI_,←aT_,dW_,aT_]
theorem nQ_pos'(n:Nat):(((n+1:Nat):Int):Rat)≠0:=fun e=>by
 have h:(((n+1:Nat):Int):Rat)=((0:Int):Rat):=e;have:=Rat.intCast_inj.1 h;omega
theorem e9_(G:List Rat)(y:Rat):evalP (aj_ (ao_ G)) y=evalP G y- coP G 0:=by
 rw[show evalP G y- coP G 0=evalP (subP G (a0_ (coP G 0))) y by rw[a8_,cO_]];refine bZ_ (fun i=>?_) y;rw[bm_,ei_,ev_];cases i with
 |zero=>grind
 |succ i=>
  rw[bn_,Nat.add_sub_cancel,Rat.mul_div_cancel (nQ_pos' i)];grind
theorem qi_(c r:Rat)(p:List Rat):itP (c- r) (c+r) p=r* itP (-1) 1 (compP [c,r] p):=by
 have e:Eqv (ao_ (compP [c,r] (aj_ p))) (aw_ (compP [c,r] p) r):=fun x=>by
  rw[aI_,hy_,mH_,an_,bu_,dvE_uv]
 have h1:=eL_ (-1) 1 (compP [c,r] p) r;rw[←jv_ e] at h1
 have h2:itP (-1) 1 (ao_ (compP [c,r] (aj_ p)))=itP (c- r) (c+r) p:=by
  unfold itP;rw[e9_,e9_,bu_,bu_,dq_,dq_];grind
 grind
theorem kh_(x:Rat):∀n,evalP (gK [1] n) x=x^ n
 |0=>by rw[Rat.pow_zero];show evalP [1] x=1;rw[al_,am_];grind
 |n+1=>by rw[gK,ax_,kh_ x n,dq_];grind
theorem ofQ_it{a b:Rat}{m:List Rat}{N:Nat}(hm:∀i,i< N→coP m i=itP a b (gK [1] i))(p:List Rat):∀n,n≤N→n≤p.length→ofQ p m n=itP a b (p.take n)
 |0,_,_=>by
  show(0:Rat)=itP a b [];unfold itP
  have e:∀x,evalP (aj_ []) x=0:=fun x=>eq_ (fun i=>by
   rw[bm_];split;rfl;show(0:Rat) / _=0;grind) x
  grind
 |n+1,h1,h2=>by
  rw[ofQ,ofQ_it hm p n (by omega) (by omega),jv_ (p:=p.take (n+1)) (q:=addP (p.take n) (aw_ (gK [1] n) (coP p n))) (fun x=>by
   rw[dK_ _ _ _ (by omega),bl_,an_,kh_];grind),qj_,eL_]
  grind
theorem lg_{a b:Rat}{m:List Rat}{N:Nat}(hm:∀i,i< N→coP m i=itP a b (gK [1] i)){p:List Rat}(h:(trimQ p).length≤N):ofP m p=itP a b p:=by
 unfold ofP;rw[ofQ_it hm _ _ h (Nat.le_refl _),List.take_length];exact jv_ (fun x=>aT_ p x) a b
theorem coP_sqL(f:Nat→Rat)(n i:Nat)(h:i< n):coP (sqL f n) i=f i:=by
 unfold coP sqL;simp[List.getD,h]
theorem h9_(p q:List Rat)(n:Nat)(hp:p.length≤n+1)(hq:q.length≤n+1):(mulP p q).length≤2* n+1:=by
 by_cases h:p=[];subst h;unfold mulP;simp;by_cases h2:q=[];subst h2;unfold mulP;simp;have:=e6_ p q h;omega
theorem mulP_line_len'(v:List Rat)(u w:Rat):(mulP v [u,w]).length≤v.length+1:=by
 by_cases h:v=[];subst h;unfold mulP;simp;have:=e6_ v [u,w] h;grind
theorem mp_(m:List Rat):∀k,(ldr m k).1.length≤k+1∧(ldr m k).2.1.length≤k+1
 |0=>⟨by simp[ldr],by simp[ldr]⟩
 |k+1=>by
  obtain⟨h1,h2⟩:=mp_ m k;refine⟨?_,Nat.le_trans h1 (by omega)⟩;show(subP (mulP (ldr m k).1 [-ldA m (ldr m k).1,1]) (aw_ (ldr m k).2.1 (if k=0 then 0 else ldN m (ldr m k).1/ (ldr m k).2.2))).length≤_;have a:=eG_ (mulP (ldr m k).1 [-ldA m (ldr m k).1,1]) (aw_ (ldr m k).2.1 (if k=0 then 0 else ldN m (ldr m k).1/ (ldr m k).2.2));have b:=a3_ (ldr m k).2.1 (if k=0 then 0 else ldN m (ldr m k).1/ (ldr m k).2.2)
  have c:(mulP (ldr m k).1 [-ldA m (ldr m k).1,1]).length≤k+1+1:=by
   by_cases h:(ldr m k).1=[];rw[h];unfold mulP;simp;have:=e6_ (ldr m k).1 [-ldA m (ldr m k).1,1] h;grind
  omega
structure Mv (m m0:List Rat)(c r:Rat)(N:Nat):Prop where
 r0:r≠0
 h:∀i,i< N→coP m i=itP (c- r) (c+r) (gK [1] i)
 h0:∀i,i< N→coP m0 i=itP (-1) 1 (gK [1] i)
theorem Mv.of{m m0:List Rat}{c r:Rat}{N:Nat}(H:Mv m m0 c r N){p q:List Rat}{k:Rat}(hp:(trimQ p).length≤N)(hq:(trimQ q).length≤N)(e:∀y,evalP p (c+r* y)=k* evalP q y):ofP m p=r* k* ofP m0 q:=by
 rw[lg_ H.h hp,lg_ H.h0 hq,qi_,jv_ (p:=compP [c,r] p) (q:=aw_ q k) (fun y=>by rw[bu_,dq_,an_];grind),eL_];grind
theorem Mv.ldr{m m0:List Rat}{c r:Rat}{N:Nat}(H:Mv m m0 c r N):∀k,2* k≤N→(∀j,j< k→ldN m0 (ldr m0 j).1≠0)→
    (∀y,evalP (ldr m k).1 (c+r* y)=r^ k* evalP (ldr m0 k).1 y)∧(∀y,evalP (Go.Abs.ldr m k).2.1 (c+r* y) * r=r^ k* evalP (Go.Abs.ldr m0 k).2.1 y)∧(k≠0→(Go.Abs.ldr m k).2.2* r=r^ k* r^ k* (Go.Abs.ldr m0 k).2.2)
 |0,_,_=>⟨fun y=>by rw[Rat.pow_zero];show evalP [1] _=1* evalP [1] y;rw[al_,am_,al_,am_];grind,fun y=>by rw[Rat.pow_zero];show(0:Rat) * r=1* 0;grind,fun h=>absurd rfl h⟩
 |k+1,hk,hn=>by
  obtain⟨i1,i2,i3⟩:=Mv.ldr H k (by omega) fun j hj=>hn j (by omega);have hl:=(mp_ m k).1;have hl0:=(mp_ m0 k).1
  have t1:∀p:List Rat,p.length≤k+1→(trimQ (mulP p p)).length≤N∧(trimQ (mulP (mulP p p) [0,1])).length≤N:=fun p hp=>by
   have a:=h9_ p p k hp hp;have b:=aD_ (mulP p p);have c:=aD_ (mulP (mulP p p) [0,1]);have d:=mulP_line_len' (mulP p p) 0 1;omega
  have eN:ldN m (Go.Abs.ldr m k).1=r* (r^ k* r^ k) * ldN m0 (Go.Abs.ldr m0 k).1:=H.of (t1 _ hl).1 (t1 _ hl0).1 fun y=>by rw[ax_,ax_,i1];grind
  have hN0:=hn k (by omega);have hrk:r^ k≠0:=pow_ne H.r0 k
  have eA:ldA m (Go.Abs.ldr m k).1=c+r* ldA m0 (Go.Abs.ldr m0 k).1:=by
   have e1:ofP m (mulP (mulP (Go.Abs.ldr m k).1 (Go.Abs.ldr m k).1) [0,1])=r* (r^ k* r^ k) * ofP m0 (addP (aw_ (mulP (Go.Abs.ldr m0 k).1 (Go.Abs.ldr m0 k).1) c) (aw_ (mulP (mulP (Go.Abs.ldr m0 k).1 (Go.Abs.ldr m0 k).1) [0,1]) r)):=
    H.of (t1 _ hl).2 (by
     have a:=ds_ (aw_ (mulP (Go.Abs.ldr m0 k).1 (Go.Abs.ldr m0 k).1) c) (aw_ (mulP (mulP (Go.Abs.ldr m0 k).1 (Go.Abs.ldr m0 k).1) [0,1]) r);have b:=a3_ (mulP (Go.Abs.ldr m0 k).1 (Go.Abs.ldr m0 k).1) c;have d:=a3_ (mulP (mulP (Go.Abs.ldr m0 k).1 (Go.Abs.ldr m0 k).1) [0,1]) r;have e:=h9_ _ _ k hl0 hl0;have f:=mulP_line_len' (mulP (Go.Abs.ldr m0 k).1 (Go.Abs.ldr m0 k).1) 0 1;have g:=aD_ (addP (aw_ (mulP (Go.Abs.ldr m0 k).1 (Go.Abs.ldr m0 k).1) c) (aw_ (mulP (mulP (Go.Abs.ldr m0 k).1 (Go.Abs.ldr m0 k).1) [0,1]) r))
     omega) fun y=>by
      rw[ax_,ax_,i1,dq_,bl_,an_,an_,ax_,ax_,ax_,dq_];grind
   have e2:ofP m0 (addP (aw_ (mulP (Go.Abs.ldr m0 k).1 (Go.Abs.ldr m0 k).1) c) (aw_ (mulP (mulP (Go.Abs.ldr m0 k).1 (Go.Abs.ldr m0 k).1) [0,1]) r))=c* ldN m0 (Go.Abs.ldr m0 k).1+r* ofP m0 (mulP (mulP (Go.Abs.ldr m0 k).1 (Go.Abs.ldr m0 k).1) [0,1]):=by
    have hA:=t1 _ hl0;have a:=ds_ (aw_ (mulP (Go.Abs.ldr m0 k).1 (Go.Abs.ldr m0 k).1) c) (aw_ (mulP (mulP (Go.Abs.ldr m0 k).1 (Go.Abs.ldr m0 k).1) [0,1]) r);have b:=a3_ (mulP (Go.Abs.ldr m0 k).1 (Go.Abs.ldr m0 k).1) c;have d:=a3_ (mulP (mulP (Go.Abs.ldr m0 k).1 (Go.Abs.ldr m0 k).1) [0,1]) r;have e:=h9_ _ _ k hl0 hl0;have f:=mulP_line_len' (mulP (Go.Abs.ldr m0 k).1 (Go.Abs.ldr m0 k).1) 0 1;have g:=aD_ (addP (aw_ (mulP (Go.Abs.ldr m0 k).1 (Go.Abs.ldr m0 k).1) c) (aw_ (mulP (mulP (Go.Abs.ldr m0 k).1 (Go.Abs.ldr m0 k).1) [0,1]) r));rw[lg_ H.h0 (by omega),qj_,eL_,eL_];unfold ldN;rw[lg_ H.h0 hA.1,lg_ H.h0 hA.2];grind
   unfold ldA;rw[e1,e2,eN]
   have h1:r* (r^ k* r^ k)≠0:=fun e=>by
    rcases Rat.mul_eq_zero.1 e with e|e
    exact H.r0 e;rcases Rat.mul_eq_zero.1 e with e|e <;> exact hrk e
   generalize r* (r^ k* r^ k)=z at *
   generalize ldN m0 (Go.Abs.ldr m0 k).1=w at *
   grind
  have eB:(if k=0 then 0 else ldN m (Go.Abs.ldr m k).1/ (Go.Abs.ldr m k).2.2)=r* r* (if k=0 then 0 else ldN m0 (Go.Abs.ldr m0 k).1/ (Go.Abs.ldr m0 k).2.2):=by
   by_cases h:k=0;rw[if_pos h,if_pos h];grind;rw[if_neg h,if_neg h,eN];have h3:=i3 h
   have h4:(Go.Abs.ldr m0 k).2.2≠0:=by
    cases k with
    |zero=>exact absurd rfl h
    |succ j=>exact hn j (by omega)
   have hr0:=H.r0
   have h5:(Go.Abs.ldr m k).2.2≠0:=fun e=>by
    rw[e] at h3
    have:r^ k* r^ k* (Go.Abs.ldr m0 k).2.2≠0:=fun e=>by
     rcases Rat.mul_eq_zero.1 e with e|e
     rcases Rat.mul_eq_zero.1 e with e|e <;> exact hrk e
     exact h4 e
    grind
   generalize ldN m0 (Go.Abs.ldr m0 k).1=w at *
   generalize (Go.Abs.ldr m0 k).2.2=v at *
   generalize (Go.Abs.ldr m k).2.2=u at *
   generalize r^ k=s at *
   have h6:u=s* s* v/ r:=by rw[←h3];exact(Rat.mul_div_cancel hr0).symm
   rw[h6];grind
  refine⟨fun y=>?_,fun y=>?_,fun _=>?_⟩;show evalP (subP (mulP (Go.Abs.ldr m k).1 [-ldA m (Go.Abs.ldr m k).1,1]) (aw_ (Go.Abs.ldr m k).2.1 _)) _=_* evalP (subP (mulP (Go.Abs.ldr m0 k).1 [-ldA m0 (Go.Abs.ldr m0 k).1,1]) (aw_ (Go.Abs.ldr m0 k).2.1 _)) y;rw[a8_,a8_,ax_,ax_,an_,an_,dq_,dq_,i1,eA,eB,Rat.pow_succ];have h2:=i2 y;generalize evalP (Go.Abs.ldr m k).2.1 (c+r* y)=w at *
  generalize evalP (Go.Abs.ldr m0 k).2.1 y=w0 at *
  generalize (if k=0 then 0 else ldN m0 (Go.Abs.ldr m0 k).1/ (Go.Abs.ldr m0 k).2.2)=B at *
  have:w* (r* r* B)=r^ k* w0* r* B:=by rw[←h2];grind
  rw[this];grind;show evalP (Go.Abs.ldr m k).1 (c+r* y) * r=_* evalP (Go.Abs.ldr m0 k).1 y;rw[i1,Rat.pow_succ];grind;show ldN m (Go.Abs.ldr m k).1* r=_* ldN m0 (Go.Abs.ldr m0 k).1;grind
end Go.Abs
