/- Part V16 of the proof. -/
import Derived.Test.YtjjllafelolfoaaGreatDoorV15
set_option linter.all false
namespace Go.Abs
set_option maxRecDepth 20000
def cutP(p:List Rat)(n:Nat):List Rat:=trimQ (p.take (n+1))
theorem coP_take(p:List Rat)(n i:Nat):coP (p.take n) i=if i< n then coP p i else 0:=by
 unfold coP;rw[List.getD_eq_getElem?_getD,List.getD_eq_getElem?_getD,List.getElem?_take];split <;> rfl
theorem mS_(p:List Rat)(n i:Nat):coP (cutP p n) i=if i≤n then coP p i else 0:=by
 rw[cutP,aU_,coP_take];by_cases h:i≤n;rw[if_pos h,if_pos (by omega)];rw[if_neg h,if_neg (by omega)]
theorem nZ_(p:List Rat)(n:Nat):(cutP p n).length≤n+1:=by
 have h1:=aD_ (p.take (n+1));have h2:(p.take (n+1)).length≤n+1:=by rw[List.length_take];omega
 unfold cutP;omega
theorem HS.cut{p:List Rat}{K:Rat}{h:Nat}(H:HS p K h)(n:Nat):HS (cutP p n) K h:=⟨H.ne,H.sc,fun i=>by
 rw[mS_];split;exact H.co i;exact(IB.zero h).eq (by grind)⟩
theorem HS.plus2{p q:List Rat}{K K':Rat}{h h':Nat}(H:HS p K h)(G:HS q K' h'):HS (addP p q) (K* K') (h+h'+1):=
 (H.rescale G.ne G.sc).plus ((Rat.mul_comm K' K▸G.rescale H.ne H.sc).mono (by omega))
theorem jK_{p q q':List Rat}{n:Nat}(h:∀j,j≤n→coP q j=coP q' j):∀i,convP p q i n=convP p q' i n
 |0=>rfl
 |i+1=>by rw[convP,convP,jK_ h i,h (n- i) (Nat.sub_le ..)]
theorem g8_{p q q':List Rat}{n:Nat}(h:∀j,j≤n→coP q j=coP q' j):coP (mulP p q) n=coP (mulP p q') n:=by
 rw[hz_,hz_,jK_ h]
theorem iw_(p:List Rat):evalP p 0=coP p 0:=by
 cases p with
 |nil=>rfl
 |cons a l=>rw[al_,bD_];grind
theorem mR_{A B u v:List Rat}{r:Nat}(h:∀j,j< r→coP u j=coP v j)(i:Nat)(hi:i≤r):coP (mulP A (subP (aj_ (mulP B u)) [evalP (aj_ (mulP B u)) 0])) i=coP (mulP A (subP (aj_ (mulP B v)) [evalP (aj_ (mulP B v)) 0])) i:=by
 have hj0:∀k,k≤r→coP (aj_ (mulP B u)) k=coP (aj_ (mulP B v)) k:=fun k hk=>by
  rw[bm_,bm_];by_cases e:k=0;rw[if_pos e,if_pos e];rw[if_neg e,if_neg e,g8_ (fun j hj=>h j (by omega))]
 exact g8_ fun j hj=>by
  rw[ei_,ei_,iw_,iw_,hj0 j (by omega),hj0 0 (by omega)]
theorem mQ_{A B u v:List Rat}{r:Nat}(h:∀j,j< r→coP u j=coP v j)(i:Nat)(hi:i≤r):coP (upM A B 0 u) i=coP (upM A B 0 v) i:=by
 unfold upM;rw[db_,db_,mR_ h i hi]
def seM(A B G:List Rat)(L:Rat)(n:Nat):Nat→List Rat
 |0=>[]
 |r+1=>cutP (addP G (aw_ (upM A B 0 (seM A B G L n r)) L)) n
theorem seM_ok{A B G U:List Rat}{L:Rat}(hU:∀x,evalP U x=evalP G x+evalP (upM A B 0 U) x* L)(n:Nat):∀r,r≤n+1→∀i,i< r→coP (seM A B G L n r) i=coP U i
 |0,_,i,hi=>by omega
 |r+1,hr,i,hi=>by
  have ih:=seM_ok hU n r (by omega);rw[seM,mS_,if_pos (by omega),db_,bA_,mQ_ ih i (by omega)];have e:=trim_iff.1 (c6_ (p:=U) (q:=addP G (aw_ (upM A B 0 U) L)) fun x=>by rw[hU x,bl_,an_]) i;rw[db_,bA_] at e;exact e.symm
theorem seM_end{A B G U:List Rat}{L:Rat}(hU:∀x,evalP U x=evalP G x+evalP (upM A B 0 U) x* L){n:Nat}(hl:(trimQ U).length≤n+1):trimQ (seM A B G L n (n+1))=trimQ U:=d3_ fun i=>by
 by_cases h:i< n+1;exact seM_ok hU n (n+1) (Nat.le_refl _) i h;rw[seM,mS_,if_neg (by omega),coP_past U i (by omega)]
def teM(A B G:List Rat)(L a:Rat):Nat→List Rat
 |0=>G
 |k+1=>aw_ (upM A B a (teM A B G L a k)) L
theorem jU_{A B G:List Rat}{L a:Rat}(hA:A.length≤3)(hB:B.length≤3)(hG:G.length≤9):∀k,(teM A B G L a k).length≤9+5* k
 |0=>hG
 |k+1=>by
  have h1:=a3_ (upM A B a (teM A B G L a k)) L;have h2:=upM_len (u:=teM A B G L a k) (a:=a) hA hB;have h3:=jU_ (L:=L) (a:=a) hA hB hG k;rw[teM];omega
theorem pf_{A B G:List Rat}{L a d dL KA KB KG:Rat}(hA:A.length≤3)(hB:B.length≤3)(hG:G.length≤9)(HA:HS A KA 120)(HB:HS B KB 120)(HG:HS G KG 2200)(d0:d≠0)(hd:IB d 20)(ha:IB (a* d) 20)(l0:dL≠0)(l1:IB dL 20)(l2:IB (L* dL) 20):∀k,k≤45→∃K,HS (teM A B G L a k) K (2200+9020* k)
 |0,_=>⟨KG,HG⟩
 |k+1,hk=>by
  obtain⟨K,H⟩:=pf_ hA hB hG HA HB HG d0 hd ha l0 l1 l2 k (by omega);have hl:=jU_ (L:=L) (a:=a) hA hB hG k;obtain⟨K',H'⟩:=upM_HS (a:=a) (d:=d) hA hB (by omega) HA HB H d0 hd ha;exact⟨_,(H'.k l0 l1 l2).mono (by omega)⟩
theorem pe_(A B G:List Rat)(L a:Rat):Vol A B L a (teM A B G L a) fun k=>aj_ (mulP B (teM A B G L a k)) where
 dF k x:=by
  have:=bZ_ (trim_iff.1 (dW_ (mulP B (teM A B G L a k)))) x;rw[aI_,ax_] at this;exact this
 ts k x:=by
  rw[teM,an_,jT_];grind
theorem d2_{s:Nat}:∀(l:List Rat),Abs.bdL l s→∃K,HS l K (s* l.length+1)
 |[],_=>⟨1,HS.nil⟩
 |c::l,hl=>by
  obtain⟨K,H⟩:=d2_ l fun q hq=>hl q (List.mem_cons_of_mem _ hq);obtain⟨h1,h2,h3⟩:=hb_ (hl c (List.mem_cons_self ..));have e:s* (c::l).length=s* l.length+s:=by rw[List.length_cons,Nat.mul_succ]
  rw[e];refine⟨K* ((c.den:Int):Rat),(fun g=>(Rat.mul_eq_zero.1 g).elim H.ne h3),(H.sc.mul h2).mono (by omega),fun i=>?_⟩;cases i with
  |zero=>rw[bD_];exact((H.sc.mul h1).eq (by grind)).mono (by omega)
  |succ i=>rw[bq_];exact(((H.co i).mul h2).eq (by grind)).mono (by omega)
theorem ok_{c d K:Rat}{h:Nat}(d0:d≠0)(hd:IB d 20)(hc:IB (c* d) 20):∀(l:List Rat) (b:Rat),HS (b::l) K h→HS (compP [c,1] (b::l)) (K* d^ l.length) (h+22* l.length)
 |[],b,H=>by
  refine⟨by rw[List.length_nil,Rat.pow_zero];have:=H.ne;grind,H.sc.eq (by rw[List.length_nil,Rat.pow_zero];grind),fun i=>?_⟩;rw[show compP [c,1] [b]=addP (mulP [] [c,1]) (a0_ b) from rfl,db_,ev_,show mulP [] [c,1]=[] from if_pos (.inl rfl),gQ_];have h1:=H.co 0;rw[bD_] at h1;split;exact h1.eq (by rw[List.length_nil,Rat.pow_zero];grind);exact(IB.zero _).eq (by grind)
 |b'::l,b,H=>by
  have Ht:HS (b'::l) K h:=⟨H.ne,H.sc,fun i=>H.co (i+1)⟩;have ih:=ok_ d0 hd hc l b' Ht;have hp:=fN_ hd (l.length+1);have hb:=H.co 0;rw[bD_] at hb;have e1:(l.length+1) * 20=20* l.length+20:=by omega
  rw[List.length_cons];refine⟨fun g=>(Rat.mul_eq_zero.1 g).elim H.ne fun g=>?_,(H.sc.mul hp).mono (by omega),fun i=>?_⟩
  have:∀n:Nat,d^ n≠0:=fun n=>by
   induction n with
   |zero=>rw[Rat.pow_zero];decide
   |succ n ih=>rw[Rat.pow_succ];intro g;rcases Rat.mul_eq_zero.1 g with g|g;exact ih g;exact d0 g
  exact this _ g;rw[show compP [c,1] (b::b'::l)=addP (mulP (compP [c,1] (b'::l)) [c,1]) (a0_ b) from rfl,db_,n4_,ev_];generalize compP [c,1] (b'::l)=X at *
  have s1:=(ih.co i).mul hc
  have s2:IB (lag X i* (K* d^ l.length) * d) (h+22* l.length+20):=by
   cases i with
   |zero=>exact(IB.zero _).eq (by rw[show lag X 0=0 from rfl];grind)
   |succ i=>exact(ih.co i).mul hd
  have s3:IB ((if i=0 then b else 0) * K* d^ (l.length+1)) (h+22* l.length+21):=by
   split;exact(hb.mul hp).mono (by omega);exact(IB.zero _).eq (by grind)
  refine(((s1.add s2).add s3).eq ?_).mono (by omega);rw[Rat.pow_succ];grind
theorem HS_shift'{c d K:Rat}{h N:Nat}(d0:d≠0)(hd:IB d 20)(hc:IB (c* d) 20){l:List Rat}(H:HS l K h)(hl:l.length≤N+1):∃K',HS (compP [c,1] l) K' (h+22* N):=by
 cases l with
 |nil=>exact⟨K,H.mono (by omega)⟩
 |cons b l=>
  rw[List.length_cons] at hl;exact⟨_,(ok_ d0 hd hc l b H).mono (by omega)⟩
theorem dj_(c:Rat):∀l:List Rat,(compP [c,1] l).length≤l.length
 |[]=>Nat.le_refl _
 |a::l=>by
  have h1:=ds_ (mulP (compP [c,1] l) [c,1]) (a0_ a);have h2:=eK_ (compP [c,1] l) c;have h3:=dj_ c l;have h4:=et_ a;rw[List.length_cons];show(addP (mulP (compP [c,1] l) [c,1]) (a0_ a)).length≤_;omega
theorem lf_{c d K:Rat}{h N:Nat}(d0:d≠0)(hd:IB d 20)(hc:IB (c* d) 20)(hq:qs c≤20)(h1:1≤h)(hN:(N+1) * (h+22* N+22)≤100000000)(hN2:N≤1000):∀(l:List Rat),l.length≤N+1→HS l K h→dv_ [c,1] l
 |[],_,_=>trivial
 |a::l,hl,H=>by
  rw[List.length_cons] at hl;have Ht:HS l K h:=⟨H.ne,H.sc,fun i=>H.co (i+1)⟩;obtain⟨K',H'⟩:=HS_shift' (N:=N) d0 hd hc Ht (by omega);have hb:=H'.bdL (by omega);have hm:=bz_ hb (by omega);have hll:=dj_ c l;have hml:=eK_ (compP [c,1] l) c
  have hmc:mxL [c,1]≤20:=bz_ (fun q hq'=>by
   rcases List.mem_cons.1 hq' with rfl|hq'
   exact hq;rw[List.mem_singleton.1 hq'];exact Nat.le_trans (by decide:qs 1≤1) (by decide)) (by decide)
  have ha:=H.bdL h1 a (List.mem_cons_self ..);have e:(compP [c,1] l).length* (mxL (compP [c,1] l)+mxL [c,1]+1)≤(N+1) * (h+22* N+22):=Nat.mul_le_mul (by omega) (by omega);have e2:h≤(N+1) * (h+22* N+22):=Nat.le_trans (by omega) (Nat.le_mul_of_pos_left _ (by omega));refine⟨lf_ d0 hd hc hq h1 hN hN2 l (by omega) Ht,⟨by omega,by omega,by omega,by simp⟩,by unfold sm;omega,by omega⟩
abbrev Ke:=List (List Rat×List Rat)
def upF(a:Rat)(u o:List Rat)(p:List Rat×List Rat):List Rat:=addP o (mulP p.1 (subP (aj_ (mulP p.2 u)) [evalP (aj_ (mulP p.2 u)) a]))
def upL(a:Rat)(u:List Rat):Ke→List Rat→List Rat
 |[],o=>o
 |p::k,o=>upL a u k (upF a u o p)
def upK(k:Ke)(a:Rat)(u:List Rat):List Rat:=upL a u k []
theorem o5_(A B:List Rat)(a:Rat)(u:List Rat):upK [(A,B)] a u=upM A B a u:=rfl
theorem m3_(a:Rat)(u:List Rat):∀(k:Ke) (o:List Rat) (p:List Rat×List Rat),upL a u (k++[p]) o=upF a u (upL a u k o) p
 |[],_,_=>rfl
 |q::k,o,p=>m3_ a u k (upF a u o q) p
structure OkUF (a:Rat)(u o:List Rat)(p:List Rat×List Rat):Prop where
 m1:okMul p.2 u
 i1:(mulP p.2 u).length≤1099511627775
 i2:smL (aj_ (mulP p.2 u))
 e1:b2_ (aj_ (mulP p.2 u)) a
 l1:(aj_ (mulP p.2 u)).length≤1099511627776
 m2:okMul p.1 (subP (aj_ (mulP p.2 u)) [evalP (aj_ (mulP p.2 u)) a])
 o1:smL o
 o2:o.length≤1099511627776
 l2:(mulP p.1 (subP (aj_ (mulP p.2 u)) [evalP (aj_ (mulP p.2 u)) a])).length≤1099511627776
def okUpK(k:Ke)(a:Rat)(u:List Rat):Prop:=∀i p,k[i]?=some p→OkUF a u (upL a u (k.take i) []) p
structure KHS (k:Ke)(KA KB:Rat)(h:Nat):Prop where
 len:∀p∈k,p.1.length≤4∧p.2.length≤4
 a:∀p∈k,HS p.1 KA h
 b:∀p∈k,HS p.2 KB h
theorem pow_nz'{d:Rat}(h:d≠0):∀n:Nat,d^ n≠0
 |0=>by rw[Rat.pow_zero];decide
 |n+1=>by rw[Rat.pow_succ];intro g;rcases Rat.mul_eq_zero.1 g with g|g;exact pow_nz' h n g;exact h g
structure TeB (A B u:List Rat)(a S:Rat)(h:Nat):Prop where
 m:(mulP B u).length≤u.length+4
 il:(aj_ (mulP B u)).length≤u.length+5
 ib:bdL (aj_ (mulP B u)) h
 sb:bdL (subP (aj_ (mulP B u)) [evalP (aj_ (mulP B u)) a]) h
 sl:(subP (aj_ (mulP B u)) [evalP (aj_ (mulP B u)) a]).length≤u.length+5
 l:(mulP A (subP (aj_ (mulP B u)) [evalP (aj_ (mulP B u)) a])).length≤u.length+9
 H:HS (mulP A (subP (aj_ (mulP B u)) [evalP (aj_ (mulP B u)) a])) S h
theorem te_HS{A B u:List Rat}{a d KA KB K:Rat}{h h':Nat}(hA:A.length≤4)(hB:B.length≤4)(hu:u.length≤245)(HA:HS A KA h)(HB:HS B KB h)(H:HS u K h')(d0:d≠0)(hd:IB d 20)(ha:IB (a* d) 20)(h1:1≤h):TeB A B u a (KA* (KB* K* facR 250* d^ 255)) (h'+2* h+13000):=by
 have m1:=ns_ B u;have i1:=dF_ (mulP B u);have g1:=HB.mul H hB;have g2:=g1.integral (L:=250) (by omega) (by decide);have s3:=eG_ (aj_ (mulP B u)) [evalP (aj_ (mulP B u)) a];rw[List.length_singleton] at s3;have l3:=ns_ A (subP (aj_ (mulP B u)) [evalP (aj_ (mulP B u)) a]);have hib:=g2.bdL (by omega);generalize hf:aj_ (mulP B u)=f at *
 have hfl:f.length≤250:=by omega
 have hp:=fN_ hd 255;have hp2:=fN_ hd (255- f.length);have hv:=(hx_ hd ha f g2.all).mul hp2;have e0:d^ f.length* d^ (255- f.length)=d^ 255:=by rw[←md_,show f.length+(255- f.length)=255 by omega]
 have e1:f.length* (20+2)≤250* 22:=Nat.mul_le_mul_right _ hfl;have e2:(255- f.length) * 20≤255* 20:=Nat.mul_le_mul_right _ (by omega);have g3:=(g2.rescale (pow_nz' d0 255) hp).mono (show _≤h'+h+12800 by omega);have g4:=g3.less (v:=evalP f a) ((hv.eq (by rw[←e0];grind)).mono (by omega));rw[←f6_] at g4;have g5:=HA.mul g4 hA;subst hf;exact⟨by omega,by omega,bdL_mono' hib (by omega),bdL_mono' (g4.bdL (by omega)) (by omega),by omega,by omega,g5.mono (by omega)⟩
theorem upL_HS{a d KA KB K:Rat}{u:List Rat}{h h':Nat}(hu:u.length≤240)(H:HS u K h')(d0:d≠0)(hd:IB d 20)(ha:IB (a* d) 20)(hq:qs a≤20)(h1:1≤h)(hlim:h'+2* h+14000≤400000000):∀(k:Ke) (o:List Rat) (n:Nat),KHS k KA KB h→n+k.length≤900→o.length≤u.length+9→HS o (KA* (KB* K* facR 250* d^ 255)) (h'+2* h+13000+n)→
    HS (upL a u k o) (KA* (KB* K* facR 250* d^ 255)) (h'+2* h+13000+(n+k.length))∧(upL a u k o).length≤u.length+9∧∀i p,k[i]?=some p→OkUF a u (upL a u (k.take i) o) p
 |[],o,n,_,_,ho,Ho=>⟨Ho,ho,fun i p hp=>by simp at hp⟩
 |p::k,o,n,hk,hn,ho,Ho=>by
  rw[List.length_cons] at hn;obtain⟨l1,l2⟩:=hk.len p (List.mem_cons_self ..);have HA:=hk.a p (List.mem_cons_self ..);have HB:=hk.b p (List.mem_cons_self ..);have T:=te_HS l1 l2 (show u.length≤245 by omega) HA HB H d0 hd ha h1;have al:=ds_ o (mulP p.1 (subP (aj_ (mulP p.2 u)) [evalP (aj_ (mulP p.2 u)) a]));have hl:=T.l;have Hn:HS (upF a u o p) (KA* (KB* K* facR 250* d^ 255)) (h'+2* h+13000+(n+1)):=(Ho.plus (T.H.mono (by omega))).mono (by omega);obtain⟨r1,r2,r3⟩:=upL_HS hu H d0 hd ha hq h1 hlim k (upF a u o p) (n+1) ⟨fun q hq=>hk.len q (List.mem_cons_of_mem _ hq),fun q hq=>hk.a q (List.mem_cons_of_mem _ hq),fun q hq=>hk.b q (List.mem_cons_of_mem _ hq)⟩ (by omega) (by unfold upF;omega) Hn;refine⟨by rw[List.length_cons,show n+(k.length+1)=n+1+k.length by omega];exact r1,r2,fun i q hq'=>?_⟩;cases i with
  |zero=>
   cases hq';show OkUF a u o p;have a1:=bz_ (HA.bdL h1) h1;have b1:=bz_ (HB.bdL h1) h1;have u1:=bz_ ((H.mono (show h'≤h'+1 by omega)).bdL (by omega)) (by omega);have i1:=bz_ T.ib (by omega);have s1:=bz_ T.sb (by omega);have o1:=Ho.bdL (by omega);have ml:=T.m;have il:=T.il;have sl:=T.sl;have e1:p.2.length* (mxL p.2+mxL u+1)≤4* (h+h'+2):=Nat.mul_le_mul l2 (by omega);have e2:p.1.length* (mxL p.1+mxL (subP (aj_ (mulP p.2 u)) [evalP (aj_ (mulP p.2 u)) a])+1)≤4* (h'+3* h+13002):=Nat.mul_le_mul l1 (by omega);have e3:(aj_ (mulP p.2 u)).length* (mxL (aj_ (mulP p.2 u))+qs a+1)≤250* (h'+2* h+13021):=Nat.mul_le_mul (by omega) (by omega);exact⟨⟨by omega,by omega,by omega,by omega⟩,by omega,bI_ T.ib (by omega),⟨by omega,by omega⟩,by omega,⟨by omega,by omega,by omega,by omega⟩,bI_ o1 (by omega),by omega,by omega⟩
  |succ i=>exact r3 i q (by simpa using hq')
theorem kQ_{k:Ke}{a d KA KB K:Rat}{u:List Rat}{h h':Nat}(hk:KHS k KA KB h)(hkl:k.length≤900)(hu:u.length≤240)(H:HS u K h')(d0:d≠0)(hd:IB d 20)(ha:IB (a* d) 20)(hq:qs a≤20)(h1:1≤h)(A0:KA≠0)(B0:KB≠0)(IA:IB KA h)(IBB:IB KB h)(hlim:h'+2* h+14000≤400000000):HS (upK k a u) (KA* (KB* K* facR 250* d^ 255)) (h'+2* h+13000+k.length)∧(upK k a u).length≤u.length+9∧okUpK k a u:=by
 have n0:HS [] (KA* (KB* K* facR 250* d^ 255)) (h'+2* h+13000+0):=by
  refine⟨fun g=>?_,?_,fun i=>(IB.zero _).eq (by show 0=(0:Rat) * _;grind)⟩;rcases Rat.mul_eq_zero.1 g with g|g
  exact A0 g;rcases Rat.mul_eq_zero.1 g with g|g
  rcases Rat.mul_eq_zero.1 g with g|g
  rcases Rat.mul_eq_zero.1 g with g|g
  exact B0 g;exact H.ne g;have:=eS_ 250;grind;exact pow_nz' d0 255 g;have hf:=nN_ 250 (by omega);generalize facR 250=F at *
  have hp:=fN_ hd 255;generalize d^ 255=E at *
  exact(IA.mul (((IBB.mul H.sc).mul hf).mul hp)).mono (by omega)
 have:=upL_HS hu H d0 hd ha hq h1 hlim k [] 0 hk (by omega) (Nat.zero_le _) n0;rw[Nat.zero_add] at this;exact this
def seK(k:Ke)(G:List Rat)(L:Rat)(n:Nat):Nat→List Rat
 |0=>[]
 |r+1=>cutP (addP G (aw_ (upK k 0 (seK k G L n r)) L)) n
theorem pw_(A B G:List Rat)(L:Rat)(n:Nat):∀r,seK [(A,B)] G L n r=seM A B G L n r
 |0=>rfl
 |r+1=>by rw[seK,seM,pw_ A B G L n r,o5_]
def teK(k:Ke)(G:List Rat)(L a:Rat):Nat→List Rat
 |0=>G
 |n+1=>aw_ (upK k a (teK k G L a n)) L
theorem jV_(A B G:List Rat)(L a:Rat):∀n,teK [(A,B)] G L a n=teM A B G L a n
 |0=>rfl
 |n+1=>by rw[teK,teM,jV_ A B G L a n,o5_]
theorem jY_(k:Ke)(G:List Rat)(L:Rat)(n:Nat):∀r,(seK k G L n r).length≤n+1
 |0=>by rw[seK];exact Nat.zero_le _
 |r+1=>by rw[seK];exact nZ_ _ _
section
variable {k:Ke}{G:List Rat}{L dL KA KB KG:Rat}{h:Nat}(hk:KHS k KA KB h)(hkl:k.length≤900)(h1:1≤h)(h2:h≤1000)(A0:KA≠0)(B0:KB≠0)(IA:IB KA h)(IBB:IB KB h)(HG:HS G KG 3000)(l0:dL≠0)(l1:IB dL 20)(l2:IB (L* dL) 20)
include hk hkl h1 h2 A0 B0 IA IBB HG l0 l1 l2
theorem seK_HS{n:Nat}(hn:n≤40):∀r,r≤1000→(∃K,HS (seK k G L n r) K (20000* r+1))∧okUpK k 0 (seK k G L n r)
 |0,_=>⟨⟨1,HS.nil.mono (by omega)⟩,(kQ_ (u:=[]) (d:=1) hk hkl (by decide) HS.nil (by decide) (IB.one.mono (by omega)) ((IB.zero 20).eq (by grind)) (by decide) h1 A0 B0 IA IBB (by omega)).2.2⟩
 |r+1,hr=>by
  obtain⟨⟨K,H⟩,_⟩:=seK_HS hn r (by omega);have hl:=jY_ k G L n r;have H':=(kQ_ (a:=0) (d:=1) hk hkl (by omega) H (by decide) (IB.one.mono (by omega)) ((IB.zero 20).eq (by grind)) (by decide) h1 A0 B0 IA IBB (by omega)).1;have g1:=H'.k l0 l1 l2;have g2:=((HG.plus2 g1).cut n).mono (show _≤20000* (r+1)+1 by omega);have hl2:=jY_ k G L n (r+1);exact⟨⟨_,g2⟩,(kQ_ (a:=0) (d:=1) hk hkl (by have:=nZ_ (addP G (aw_ (upK k 0 (seK k G L n r)) L)) n;omega) g2 (by decide) (IB.one.mono (by omega)) ((IB.zero 20).eq (by grind)) (by decide) h1 A0 B0 IA IBB (by omega)).2.2⟩
end
def absH(v:Sp):Rat:=if 0≤v.1 then v.2 else if v.2≤0 then -v.1 else maxL [-v.1,v.2]
theorem absH_le{v:Sp}{y:Rat}(h1:v.1≤y)(h2:y≤v.2):ab y≤absH v:=by
 have hm:=maxL2 (-v.1) v.2;unfold absH;rw[ab_le];split;constructor <;> grind;split;constructor <;> grind;constructor <;> grind
theorem absH_qs{v:Sp}{M:Nat}(h1:qs v.1≤M)(h2:qs v.2≤M)(hM:1≤M):qs (absH v)≤M:=by
 unfold absH;split;exact h2;split;rw[cQ_];exact h1
 exact mn_ (fun x hx=>by
  rcases List.mem_cons.1 hx with rfl|hx
  rw[cQ_];exact h1;rw[List.mem_singleton.1 hx];exact h2) hM
def stL(z g:Rat):Nat→Rat
 |0=>g
 |n+1=>stL z g n* z
def stR(w:Rat):Nat→Rat
 |0=>w
 |n+1=>stR w n* (((n+1:Nat):Int):Rat)
theorem stL_eq(z g:Rat):∀n:Nat,stL z g n=g* z^ n
 |0=>by rw[stL,Rat.pow_zero];grind
 |n+1=>by rw[stL,stL_eq z g n,Rat.pow_succ];grind
theorem stR_eq(w:Rat):∀n,stR w n=w* facR n
 |0=>by rw[stR,facR];grind
 |n+1=>by rw[stR,stR_eq w n,facR];grind
theorem pk_{z g:Rat}{a b:Nat}(hz:qs z≤a)(hg:qs g≤b):∀n,qs (stL z g n)≤b+n* a
 |0=>by rw[stL];omega
 |n+1=>by
  have h1:=pk_ hz hg n;have h2:=bK_ (stL z g n) z;rw[stL,Nat.succ_mul];omega
theorem pj_{w:Rat}{b:Nat}(hw:qs w≤b):∀n,n≤60→qs (stR w n)≤b+n* 8
 |0,_=>by rw[stR];omega
 |n+1,hn=>by
  have h1:=pj_ hw n (by omega);have h2:=bK_ (stR w n) (((n+1:Nat):Int):Rat)
  have h3:qs (((n+1:Nat):Int):Rat)≤8:=by
   have e:=co_ ((((n+1:Nat):Int)):Rat);unfold qs;show max (bl ((n+1:Nat):Int).natAbs) (bl 1)≤8;have:bl ((n+1:Nat):Int).natAbs≤8:=bl_le (by omega);have h1:bl 1≤8:=by decide
   omega
  rw[stR,Nat.succ_mul];omega
def stP(z g w:Rat)(n:Nat):Bool:=decide (z* 2≤(((n+2:Nat):Int):Rat)) && decide (stL z g (n+1)≤stR w (n+1))
theorem o2_ {u A B:List Rat} {L a x w α β γ lo hi:Rat} {G:List Rat} (hG:∀y,evalP G y=evalP u y- L* (evalP A y* (evalP (aj_ (mulP B u)) y- evalP (aj_ (mulP B u)) a)))
    (hlo:lo≤hi) (hax:lo=a∧hi=x∨lo=x∧hi=a) (hα:∀y,lo≤y→y≤hi→ab (evalP A y)≤α) (hβ:∀y,lo≤y→y≤hi→ab (evalP B y)≤β) (hγ:∀y,lo≤y→y≤hi→ab (evalP G y)≤γ)
    {n:Nat} (hn:stP (α* β* ab L* (hi- lo)) (γ* 4) w n=true) (S:Nat→Rat) (s0:S 0=0) (ss:∀k,S (k+1)=S k+evalP (teM A B G L a k) x):S (n+1)- w/ 2≤evalP u x∧evalP u x≤S (n+1)+w/ 2:=by
 unfold stP at hn;rw[Bool.and_eq_true] at hn;obtain⟨n1,n2⟩:=hn;have n1:=of_decide_eq_true n1;have n2:=of_decide_eq_true n2;rw[stL_eq,stR_eq] at n2;have V:=pe_ A B G L a;have R:=pe_ A B u L a
 have h0:∀y,evalP (teM A B u L a 0) y=evalP (teM A B G L a 0) y+evalP (teM A B u L a 1) y:=fun y=>by
  show evalP u y=evalP G y+evalP (aw_ (upM A B a u) L) y;rw[hG,an_,jT_];grind
 obtain⟨s,hs,hx,hw,hin⟩:∃s:Rat,(s=1∨s= -1)∧0≤s* (x- a)∧s* (x- a)=hi- lo∧∀z,0≤s* (z- a)→s* (z- a)≤s* (x- a)→lo≤z∧z≤hi:=by
  rcases hax with⟨rfl,rfl⟩|⟨rfl,rfl⟩
  exact⟨1,.inl rfl,by grind,by grind,fun z h1 h2=>by constructor <;> grind⟩;exact⟨-1,.inr rfl,by grind,by grind,fun z h1 h2=>by constructor <;> grind⟩
 have hU:∀z,0≤s* (z- a)→s* (z- a)≤s* (x- a)→ab (evalP (teM A B u L a 0) z)≤bV (ab lo+ab hi) u:=fun z h1 h2=>by
  obtain⟨g1,g2⟩:=hin z h1 h2;exact cr_ (fo_ lo hi) (ab_in g1 g2) u
 have key:=vol_tail V R h0 hs hx (fun z h1 h2=>hα z (hin z h1 h2).1 (hin z h1 h2).2) (fun z h1 h2=>hβ z (hin z h1 h2).1 (hin z h1 h2).2) (fun z h1 h2=>hγ z (hin z h1 h2).1 (hin z h1 h2).2) hU (n:=n) (w:=w) (by rw[hw];grind) (by rw[hw];grind);have hsum:=o3_ V R h0 x S s0 ss (n+1);have e:evalP (teM A B u L a 0) x=evalP u x:=rfl;rw[e] at hsum;have h2:w/ 2* 2=w:=Rat.div_mul_cancel (by decide);generalize w/ 2=v at *
 have:=(ab_le (x:=evalP (teM A B u L a (n+1)) x) (c:=v)).1 (by grind);constructor <;> grind
theorem dv_int(B u:List Rat)(x:Rat):dvE (aj_ (mulP B u)) x=evalP B x* evalP u x:=by
 have:=bZ_ (trim_iff.1 (dW_ (mulP B u))) x;rw[aI_,ax_] at this;exact this
def suK(k:Ke)(G:List Rat)(L a x:Rat):Nat→Rat
 |0=>0
 |n+1=>suK k G L a x n+evalP (teK k G L a n) x


theorem leastN{P:Nat→Prop}:∀N,P N→∃d,d≤N∧P d∧∀k,k< d→¬P k:=by
 intro N
 induction N using Nat.strongRecOn with
 |ind N ih=>
  intro h;by_cases e:∃k,k< N∧P k;obtain⟨k,k1,k2⟩:=e;obtain⟨d,d1,d2,d3⟩:=ih k k1 k2;exact⟨d,by omega,d2,d3⟩;exact⟨N,Nat.le_refl _,h,fun k hk hp=>e ⟨k,hk,hp⟩⟩
section
variable {T:List Rat}{n:Nat}(hn:1≤n∧n≤5)(hl:T.length=n+1)(ht:trimQ T=T)(hm:leadP T=1)(hb:bdL T 20)
include hn hl ht hm hb
end
def m7:List Rat:=sqL (moQ [1] (0,1)) 2
def p7:List Rat:=[mkRat (-1) 2,1]
theorem w_m7:m7=[1,mkRat 1 2]:=by decide+kernel
theorem w_ok:(∀k,k< 1→okLd m7 k)∧(∀k,k< 2→okMo [1] (0,1) k):=by decide+kernel
theorem w_g:(ldr m7 1).1=p7∧realM 9 p7=some true∧onM 9 p7 m7=some [1]∧a4_ p7=p7∧bdL p7 100∧trimQ p7≠[]:=by decide+kernel
theorem w_a:okAp p7 [1] [0,((1:Int):Rat)]∧apV p7 [1] [0,((1:Int):Rat)]=mkRat 1 2:=by decide+kernel
def dIt(p:List Rat):Nat→List Rat
 |0=>p
 |n+1=>ao_ (dIt p n)
def dLt(p:List Rat):Nat→List Rat
 |0=>p
 |n+1=>derL (dLt p n)
def heT(v:List Rat)(a:Rat):Nat→List Rat×List Rat
 |0=>([],[1])
 |r+1=>(addP (heT v a r).1 (aw_ (heT v a r).2 ((coP v r- evalP (dIt (heT v a r).1 r) a) / evalP (dIt (heT v a r).2 r) a)),mulP (heT v a r).2 [-a,1])
theorem heT_o(v:List Rat)(a:Rat)(r:Nat):(heT v a (r+1)).1=addP (heT v a r).1 (aw_ (heT v a r).2 ((coP v r- evalP (dIt (heT v a r).1 r) a) / evalP (dIt (heT v a r).2 r) a)):=rfl
theorem heT_z(v:List Rat)(a:Rat)(r:Nat):(heT v a (r+1)).2=mulP (heT v a r).2 [-a,1]:=rfl
def Ev(a:Rat)(p c:List Rat):Prop:=∀x,evalP p x=evalP c (x- a)
theorem Ev.derive{a:Rat}{p c:List Rat}(h:Ev a p c):Ev a (ao_ p) (derL c):=fun x=>by
 have e:trimQ p=trimQ (compP [-a,1] c):=c6_ fun y=>by rw[h y,bu_,cN_,Rat.sub_eq_add_neg]
 have d1:dvE [-a,1] x=1:=by rw[bp_,bp_,al_,am_,show dvE [] x=0 from rfl];grind
 rw[aI_,ix_ (trim_iff.1 e),hy_,er_,cN_,d1,Rat.mul_one,Rat.sub_eq_add_neg]
theorem Ev.dIt{a:Rat}{p c:List Rat}(h:Ev a p c):∀n,Ev a (dIt p n) (dLt c n)
 |0=>h
 |n+1=>(Ev.dIt h n).derive
theorem Ev.at{a:Rat}{p c:List Rat}(h:Ev a p c):evalP p a=coP c 0:=by
 rw[h a,show a- a=0 by grind,iw_]
theorem co_dLt(c:List Rat):coP (dLt c 0) 0=coP c 0∧coP (dLt c 1) 0=coP c 1∧coP (dLt c 2) 0=coP c 2* 2∧coP (dLt c 3) 0=coP c 3* 6:=by
 refine⟨rfl,?_,?_,?_⟩;rw[dLt,eV_,dLt];show coP c 1* ((1:Int):Rat)=_;grind;rw[dLt,eV_,dLt,eV_,dLt];show coP c 2* ((2:Int):Rat) * ((1:Int):Rat)=_;grind;rw[dLt,eV_,dLt,eV_,dLt,eV_,dLt];show coP c 3* ((3:Int):Rat) * ((2:Int):Rat) * ((1:Int):Rat)=_;grind
theorem Ev.vals{a:Rat}{p c:List Rat}(h:Ev a p c):evalP (Abs.dIt p 0) a=coP c 0∧evalP (Abs.dIt p 1) a=coP c 1∧evalP (Abs.dIt p 2) a=coP c 2* 2∧evalP (Abs.dIt p 3) a=coP c 3* 6:=by
 obtain⟨h0,h1,h2,h3⟩:=co_dLt c;exact⟨(h.dIt 0).at.trans h0,(h.dIt 1).at.trans h1,(h.dIt 2).at.trans h2,(h.dIt 3).at.trans h3⟩
theorem Ev.step{a k:Rat}{o z co cz ct:List Rat}(ho:Ev a o co)(hz:Ev a z cz)(he:∀y,evalP ct y=evalP co y+evalP cz y* k):Ev a (addP o (aw_ z k)) ct:=fun x=>by
 rw[bl_,an_,ho x,hz x,he]
theorem Ev.line{a:Rat}{z cz:List Rat}(hz:Ev a z cz):Ev a (mulP z [-a,1]) (0::cz):=fun x=>by
 rw[ax_,hz x,cN_,al_];grind
theorem qp_{u v:List Rat}{a:Rat}(hu:u.length≤4)(hv:∀k,k< 4→coP v k=evalP (dIt u k) a):(∀r,r< 4→evalP (dIt (heT v a r).1 r) a=0∧(evalP (dIt (heT v a r).2 r) a=1∨evalP (dIt (heT v a r).2 r) a=2∨evalP (dIt (heT v a r).2 r) a=6))∧trimQ (heT v a 4).1=trimQ u:=by
 obtain⟨c0,c1,c2,c3,hc⟩:∃c0 c1 c2 c3,Ev a u [c0,c1,c2,c3]:=by
  have hl:=dj_ a u;refine⟨coP (compP [a,1] u) 0,coP (compP [a,1] u) 1,coP (compP [a,1] u) 2,coP (compP [a,1] u) 3,fun x=>?_⟩;have e:evalP u x=evalP (compP [a,1] u) (x- a):=by rw[bu_,cN_];congr 1;grind
  rw[e];refine bZ_ (fun i=>?_) _
  match i with
  |0=>rfl
  |1=>rfl
  |2=>rfl
  |3=>rfl
  |i+4=>rw[ca_ (by omega)];rfl
 obtain⟨v0,v1,v2,v3⟩:=hc.vals;rw[←hv 0 (by decide)] at v0;rw[←hv 1 (by decide)] at v1;rw[←hv 2 (by decide)] at v2;rw[←hv 3 (by decide)] at v3;have q0:coP [c0,c1,c2,c3] 0=c0:=rfl;have q1:coP [c0,c1,c2,c3] 1=c1:=rfl;have q2:coP [c0,c1,c2,c3] 2=c2:=rfl;have q3:coP [c0,c1,c2,c3] 3=c3:=rfl;rw[q0] at v0;rw[q1] at v1;rw[q2] at v2;rw[q3] at v3;have o0:Ev a (heT v a 0).1 []:=fun x=>rfl;have z0:Ev a (heT v a 0).2 [1]:=fun x=>by show evalP [1] x=_;rw[al_,al_,am_,am_];grind
 have z1:Ev a (heT v a 1).2 [0,1]:=by rw[heT_z];exact z0.line
 have z2:Ev a (heT v a 2).2 [0,0,1]:=by rw[heT_z];exact z1.line
 have z3:Ev a (heT v a 3).2 [0,0,0,1]:=by rw[heT_z];exact z2.line
 have d0:evalP (dIt (heT v a 0).2 0) a=1:=z0.vals.1;have d1:evalP (dIt (heT v a 1).2 1) a=1:=z1.vals.2.1;have d2:evalP (dIt (heT v a 2).2 2) a=2:=z2.vals.2.2.1.trans (by show(1:Rat) * 2=2;grind);have d3:evalP (dIt (heT v a 3).2 3) a=6:=z3.vals.2.2.2.trans (by show(1:Rat) * 6=6;grind);have e0:evalP (dIt (heT v a 0).1 0) a=0:=o0.vals.1
 have o1:Ev a (heT v a 1).1 [c0]:=by
  rw[heT_o];refine o0.step z0 fun y=>?_;rw[e0,d0,v0,al_,al_,am_];grind
 have e1:evalP (dIt (heT v a 1).1 1) a=0:=o1.vals.2.1
 have o2:Ev a (heT v a 2).1 [c0,c1]:=by
  rw[heT_o];refine o1.step z1 fun y=>?_;rw[e1,d1,v1];simp only[al_,am_];grind
 have e2:evalP (dIt (heT v a 2).1 2) a=0:=o2.vals.2.2.1.trans (by show(0:Rat) * 2=0;grind)
 have o3:Ev a (heT v a 3).1 [c0,c1,c2]:=by
  rw[heT_o];refine o2.step z2 fun y=>?_;rw[e2,d2,v2];simp only[al_,am_];grind
 have e3:evalP (dIt (heT v a 3).1 3) a=0:=o3.vals.2.2.2.trans (by show(0:Rat) * 6=0;grind)
 have o4:Ev a (heT v a 4).1 [c0,c1,c2,c3]:=by
  rw[heT_o];refine o3.step z3 fun y=>?_;rw[e3,d3,v3];simp only[al_,am_];grind
 refine⟨fun r hr=>?_,c6_ fun x=>by rw[o4 x,hc x]⟩
 match r,hr with
 |0,_=>exact⟨e0,.inl d0⟩
 |1,_=>exact⟨e1,.inl d1⟩
 |2,_=>exact⟨e2,.inr (.inl d2)⟩
 |3,_=>exact⟨e3,.inr (.inr d3)⟩
theorem der_bd{p:List Rat}{s:Nat}(h:bdL p s)(hs:1≤s)(hl:p.length≤200):bdL (ao_ p) (s+8):=ew_ fun i=>by
 rw[bn_];by_cases hi:i< 200;have h1:=bK_ (coP p (i+1)) (((i+1:Nat):Int):Rat);have h2:=bL_ h hs (i+1)
 have h3:qs (((i+1:Nat):Int):Rat)≤8:=by
  unfold qs;show max (bl ((i+1:Nat):Int).natAbs) (bl 1)≤8;have h1:bl ((i+1:Nat):Int).natAbs≤8:=bl_le (by omega);have h2:bl 1≤8:=by decide
  omega
 omega;rw[ca_ (by omega),Rat.zero_mul];exact Nat.le_trans (by decide:qs 0≤1) (by omega)
theorem lM_{p:List Rat}{s:Nat}(h:bdL p s)(hs:1≤s)(hl:p.length≤200):∀n,bdL (dIt p n) (s+8* n)∧(dIt p n).length≤200
 |0=>⟨h,hl⟩
 |n+1=>by
  obtain⟨h1,h2⟩:=lM_ h hs hl n;have h3:=dX_ (dIt p n);exact⟨bdL_mono' (der_bd h1 (by omega) h2) (by omega),by rw[dIt];omega⟩
theorem p7_(a x:Rat):minL [a,x]≤maxL [a,x]∧(minL [a,x]=a∧maxL [a,x]=x∨minL [a,x]=x∧maxL [a,x]=a):=by
 have e1:minL [a,x]=if cmpQ x a< 0 then x else a:=by
  unfold minL bS_;simp only[List.foldl_cons,List.foldl_nil,decide_eq_true_eq]
 have e2:maxL [a,x]=if 0< cmpQ x a then x else a:=by
  unfold maxL bS_;simp only[List.foldl_cons,List.foldl_nil,decide_eq_true_eq]
 rw[e1,e2];unfold cmpQ;by_cases h1:x< a;rw[if_pos h1,if_pos (by decide),if_neg (by decide)];exact⟨Rat.le_of_lt h1,.inr ⟨rfl,rfl⟩⟩;rw[if_neg h1];by_cases h2:x=a;rw[if_pos h2,if_neg (by decide)];exact⟨Rat.le_refl,.inl ⟨rfl,h2.symm⟩⟩;rw[if_neg h2,if_neg (by decide),if_pos (by decide)];exact⟨by grind,.inl ⟨rfl,rfl⟩⟩
section
variable {u p q:List Rat}{a b:Rat}
def rgM(u p q:List Rat)(a b:Rat):List Rat:=subP u (aw_ (mulP p (subP (aj_ (mulP q u)) [evalP (aj_ (mulP q u)) a])) b)
theorem pG_(u p q:List Rat)(a b y:Rat):evalP (rgM u p q a b) y=evalP u y- b* (evalP p y* (evalP (aj_ (mulP q u)) y- evalP (aj_ (mulP q u)) a)):=by
 unfold rgM;rw[f6_,a8_,an_,ax_,a8_,cO_];grind
theorem rg_moved(u p q:List Rat)(a b x:Rat):evalP (compP [a,1] u) x=evalP (compP [a,1] (rgM u p q a b)) x+evalP (upM (compP [a,1] p) (compP [a,1] q) 0 (compP [a,1] u)) x* b:=by
 have key:=jF_ (H:=addL (aj_ (mulP (compP [a,1] q) (compP [a,1] u))) (ci_ (compP [a,1] (aj_ (mulP q u))) (-1))) (fun z=>by
  have d1:dvE [a,1] z=1:=by rw[bp_,bp_,al_,am_,show dvE [] z=0 from rfl];grind
  rw[eb_,cD_,dv_int,hy_,dv_int,bu_,bu_,d1];grind) x 0
 rw[bv_,bv_,a6_,a6_,bu_,bu_,cN_,cN_] at key;rw[jT_,bu_,bu_,bu_,pG_,cN_];have e:(0:Rat)+a=a:=by grind
 rw[e] at key;grind
variable (hu:u.length≤4)(hp:p.length≤3)(hq:q.length≤3)(bu:bdL u 20)(bp:bdL p 20)(bq:bdL q 20)(ha:qs a≤20)(hb:qs b≤20)
include hu hp hq bu bp bq ha hb
theorem rg_HS:(∃K,HS (rgM u p q a b) K 600)∧(rgM u p q a b).length≤9∧okMul q u∧smL (aj_ (mulP q u))∧b2_ (aj_ (mulP q u)) a∧(aj_ (mulP q u)).length≤7∧okMul p (subP (aj_ (mulP q u)) [evalP (aj_ (mulP q u)) a])∧
    (mulP p (subP (aj_ (mulP q u)) [evalP (aj_ (mulP q u)) a])).length≤9∧smL (aw_ (mulP p (subP (aj_ (mulP q u)) [evalP (aj_ (mulP q u)) a])) b):=by
 obtain⟨KU,HU⟩:=d2_ u bu;obtain⟨KP,HP⟩:=d2_ p bp;obtain⟨KQ,HQ⟩:=d2_ q bq;obtain⟨d2,d1,d0⟩:=hb_ ha;obtain⟨l2,l1,l0⟩:=hb_ hb;generalize (((a.den:Nat):Int):Rat)=d at *
 generalize (((b.den:Nat):Int):Rat)=dL at *
 have HU:=HU.mono (show _≤81 by omega);have HP:=HP.mono (show _≤61 by omega);have HQ:=HQ.mono (show _≤61 by omega);have m1:=el_ q u;have i1:=dF_ (mulP q u);have g1:=HQ.mul HU hq;have g2:=g1.integral (L:=8) (by omega) (by decide);have s3:=eG_ (aj_ (mulP q u)) [evalP (aj_ (mulP q u)) a];rw[List.length_singleton] at s3;have l3:=el_ p (subP (aj_ (mulP q u)) [evalP (aj_ (mulP q u)) a]);have l4:=a3_ (mulP p (subP (aj_ (mulP q u)) [evalP (aj_ (mulP q u)) a])) b;have l5:=eG_ u (aw_ (mulP p (subP (aj_ (mulP q u)) [evalP (aj_ (mulP q u)) a])) b);have g2b:=g2.bdL (by omega);have hv:=hx_ d1 d2 _ g2.all;have hpw:=fN_ d1 (aj_ (mulP q u)).length;have e1:(aj_ (mulP q u)).length* (20+2)≤7* 22:=Nat.mul_le_mul_right _ (by omega);have e2:(aj_ (mulP q u)).length* 20≤7* 20:=Nat.mul_le_mul_right _ (by omega);have g3:=(g2.rescale (pow_nz' d0 _) hpw).mono (show _≤365 by omega);have g4:=g3.less (v:=evalP (aj_ (mulP q u)) a) (hv.mono (by omega));rw[←f6_] at g4;have g5:=HP.mul g4 hp;have g6:=g5.k l0 l1 l2;have g7:HS (aw_ (aw_ (mulP p (subP (aj_ (mulP q u)) [evalP (aj_ (mulP q u)) a])) b) (-1)) _ _:=g6.k (d:=1) (l:= -1) (e:=1) (by decide) IB.one (IB.one.neg.eq (by grind));have g8:HS (rgM u p q a b) _ _:=HU.plus2 g7;have a1:=bz_ bu (by omega);have a2:=bz_ bq (by omega);have a3:=bz_ bp (by omega);have a4:=bz_ g2b (by omega);have a5:=bz_ (g4.bdL (by omega)) (by omega);have c1:q.length* (mxL q+mxL u+1)≤3* 41:=Nat.mul_le_mul hq (by omega)
 have c2:p.length* (mxL p+mxL (subP (aj_ (mulP q u)) [evalP (aj_ (mulP q u)) a])+1)≤3* 400:=Nat.mul_le_mul hp (by omega);have c3:(aj_ (mulP q u)).length* (mxL (aj_ (mulP q u))+qs a+1)≤7* 300:=Nat.mul_le_mul (by omega) (by omega);exact⟨⟨_,g8.mono (by omega)⟩,by unfold rgM;omega,⟨by omega,by omega,by omega,by omega⟩,bI_ g2b (by omega),⟨by omega,by omega⟩,by omega,⟨by omega,by omega,by omega,by omega⟩,by omega,bI_ (g6.bdL (by omega)) (by omega)⟩
theorem pF_:(∀z∈[u,p,q,rgM u p q a b],dv_ [a,1] z)∧smL (compP [a,1] u)∧smL (compP [a,1] (rgM u p q a b))∧
    (∀r,r≤11→okUpK [(compP [a,1] p,compP [a,1] q)] 0 (seK [(compP [a,1] p,compP [a,1] q)] (compP [a,1] (rgM u p q a b)) b 10 r)∧
     smL (upK [(compP [a,1] p,compP [a,1] q)] 0 (seK [(compP [a,1] p,compP [a,1] q)] (compP [a,1] (rgM u p q a b)) b 10 r))∧(upK [(compP [a,1] p,compP [a,1] q)] 0 (seK [(compP [a,1] p,compP [a,1] q)] (compP [a,1] (rgM u p q a b)) b 10 r)).length≤1000∧
     smL (aw_ (upK [(compP [a,1] p,compP [a,1] q)] 0 (seK [(compP [a,1] p,compP [a,1] q)] (compP [a,1] (rgM u p q a b)) b 10 r)) b)∧smL (seK [(compP [a,1] p,compP [a,1] q)] (compP [a,1] (rgM u p q a b)) b 10 r)):=by
 obtain⟨⟨KG,HG⟩,hgl,_⟩:=rg_HS hu hp hq bu bp bq ha hb;obtain⟨KU,HU⟩:=d2_ u bu;obtain⟨KP,HP⟩:=d2_ p bp;obtain⟨KQ,HQ⟩:=d2_ q bq;obtain⟨d2,d1,d0⟩:=hb_ ha;obtain⟨l2,l1,l0⟩:=hb_ hb;generalize (((a.den:Nat):Int):Rat)=d at *
 generalize (((b.den:Nat):Int):Rat)=dL at *
 have HU:=HU.mono (show _≤600 by omega);have HP:=HP.mono (show _≤61 by omega);have HQ:=HQ.mono (show _≤61 by omega);obtain⟨KP',HP'⟩:=HS_shift' (N:=2) d0 d1 d2 HP hp;obtain⟨KQ',HQ'⟩:=HS_shift' (N:=2) d0 d1 d2 HQ hq;obtain⟨KG',HG'⟩:=HS_shift' (N:=8) d0 d1 d2 HG hgl;obtain⟨KU',HU'⟩:=HS_shift' (N:=3) d0 d1 d2 HU hu;have HP':=HP'.mono (show _≤120 by omega);have HQ':=HQ'.mono (show _≤120 by omega);have HG':=HG'.mono (show _≤3000 by omega);have lp:=dj_ a p;have lq:=dj_ a q
 have ok:∀z K h,z.length≤9→1≤h→h≤600→HS z K h→dv_ [a,1] z:=fun z K h hl h1 h2 H=>
  lf_ (N:=8) d0 d1 d2 ha h1 (by omega) (by omega) z hl H
 have hk:KHS [(compP [a,1] p,compP [a,1] q)] KP' KQ' 120:=⟨fun z hz=>by rw[List.mem_singleton.1 hz];exact⟨by show(compP [a,1] p).length≤4;omega,by show(compP [a,1] q).length≤4;omega⟩,fun z hz=>by rw[List.mem_singleton.1 hz];exact HP',fun z hz=>by rw[List.mem_singleton.1 hz];exact HQ'⟩;refine⟨fun z hz=>?_,bI_ (HU'.bdL (by omega)) (by omega),bI_ (HG'.bdL (by omega)) (by omega),fun r hr=>?_⟩;simp only[List.mem_cons,List.not_mem_nil,or_false] at hz;rcases hz with rfl|rfl|rfl|rfl
 exact ok _ _ _ (by omega) (by omega) (Nat.le_refl _) HU;exact ok _ _ 61 (by omega) (by omega) (by omega) HP;exact ok _ _ 61 (by omega) (by omega) (by omega) HQ;exact ok _ _ _ hgl (by omega) (Nat.le_refl _) HG;obtain⟨⟨K,H⟩,h2⟩:=seK_HS hk (by simp) (by omega) (by omega) HP'.ne HQ'.ne HP'.sc HQ'.sc HG' l0 l1 l2 (n:=10) (by omega) r (by omega);have hl:=jY_ [(compP [a,1] p,compP [a,1] q)] (compP [a,1] (rgM u p q a b)) b 10 r;obtain⟨g1,g2,_⟩:=kQ_ (a:=0) (d:=1) hk (by simp) (by omega) H (by decide) (IB.one.mono (by omega)) ((IB.zero 20).eq (by grind)) (by decide) (by omega) HP'.ne HQ'.ne HP'.sc HQ'.sc (by omega);have g1b:=g1.bdL (by omega);have hone:[(compP [a,1] p,compP [a,1] q)].length=1:=rfl;rw[hone] at g1b;exact⟨h2,bI_ g1b (by omega),by omega,bI_ (ga_ g1b (by omega) hb) (by omega),bI_ (H.bdL (by omega)) (by omega)⟩
theorem rg_value{x:Rat}(hx:qs x≤20):(∀j,j≤40→okUpK [(p,q)] a (teK [(p,q)] (rgM u p q a b) b a j)∧smL (upK [(p,q)] a (teK [(p,q)] (rgM u p q a b) b a j))∧(upK [(p,q)] a (teK [(p,q)] (rgM u p q a b) b a j)).length≤1000∧
      b2_ (teK [(p,q)] (rgM u p q a b) b a j) x∧qs (evalP (teK [(p,q)] (rgM u p q a b) b a j) x)≤90000000)∧∀j,j≤41→qs (suK [(p,q)] (rgM u p q a b) b a x j)≤j* 90000001+1:=by
 obtain⟨⟨KG,HG⟩,hgl,_⟩:=rg_HS hu hp hq bu bp bq ha hb;obtain⟨KP,HP⟩:=d2_ p bp;obtain⟨KQ,HQ⟩:=d2_ q bq;obtain⟨d2,d1,d0⟩:=hb_ ha;obtain⟨l2,l1,l0⟩:=hb_ hb;generalize (((a.den:Nat):Int):Rat)=d at *
 generalize (((b.den:Nat):Int):Rat)=dL at *
 have HP:=HP.mono (show _≤120 by omega);have HQ:=HQ.mono (show _≤120 by omega);have HG:=HG.mono (show _≤2200 by omega);have hk:KHS [(p,q)] KP KQ 120:=⟨fun z hz=>by rw[List.mem_singleton.1 hz];exact⟨by show p.length≤4;omega,by show q.length≤4;omega⟩,fun z hz=>by rw[List.mem_singleton.1 hz];exact HP,fun z hz=>by rw[List.mem_singleton.1 hz];exact HQ⟩
 have ev:∀j,j≤40→b2_ (teK [(p,q)] (rgM u p q a b) b a j) x∧qs (evalP (teK [(p,q)] (rgM u p q a b) b a j) x)≤90000000:=fun j hj=>by
  obtain⟨K,H⟩:=pf_ hp hq hgl HP HQ HG d0 d1 d2 l0 l1 l2 j (by omega);have hl:=jU_ (L:=b) (a:=a) hp hq hgl j;rw[←jV_] at H hl;have hbd:=bdL_mono' (H.bdL (by omega)) (show 2200+9020* j≤400000 by omega);have e1:=fv_ hx hbd;have m1:=bz_ hbd (by omega);have c1:(teK [(p,q)] (rgM u p q a b) b a j).length* (400000+20+1)≤209* 400021:=Nat.mul_le_mul_right _ (by omega);have c2:(teK [(p,q)] (rgM u p q a b) b a j).length* (mxL (teK [(p,q)] (rgM u p q a b) b a j)+qs x+1)≤209* 400021:=Nat.mul_le_mul (by omega) (by omega);exact⟨⟨by omega,by omega⟩,by omega⟩
 refine⟨fun j hj=>?_,fun j=>?_⟩;obtain⟨K,H⟩:=pf_ hp hq hgl HP HQ HG d0 d1 d2 l0 l1 l2 j (by omega);have hl:=jU_ (L:=b) (a:=a) hp hq hgl j;rw[←jV_] at H hl;obtain⟨g1,g2,g3⟩:=kQ_ (k:=[(p,q)]) (a:=a) (d:=d) hk (by simp) (by omega) H d0 d1 d2 ha (by omega) HP.ne HQ.ne HP.sc HQ.sc (by omega);have hone:[(p,q)].length=1:=rfl;rw[hone] at g1;exact⟨g3,bI_ (g1.bdL (by omega)) (by omega),by omega,(ev j hj).1,(ev j hj).2⟩
 induction j with
 |zero=>intro _;rw[suK];decide
 |succ j ih=>
  intro hj;have h1:=ih (by omega);have h2:=(ev j (by omega)).2;have h3:=c3_ (suK [(p,q)] (rgM u p q a b) b a x j) (evalP (teK [(p,q)] (rgM u p q a b) b a j) x);rw[suK,Nat.succ_mul];omega
end
structure HeB (v:List Rat)(a:Rat)(r:Nat):Prop where
 o:bdL (heT v a r).1 (r* 14000+1)
 z:bdL (heT v a r).2 200
 ol:(heT v a r).1.length≤4
 zl:(heT v a r).2.length≤5
 vq:qs (coP v r)≤13001
 k:qs ((coP v r- evalP (dIt (heT v a r).1 r) a) / evalP (dIt (heT v a r).2 r) a)≤13010
theorem he_sizes{u v:List Rat}{a:Rat}(hu:u.length≤4)(bu:bdL u 20)(ha:qs a≤20)(hv:∀k,k< 4→coP v k=evalP (dIt u k) a):∀r,r< 4→HeB v a r:=by
 obtain⟨hf,_⟩:=qp_ hu hv
 have vq:∀r,r< 4→qs (coP v r)≤13001:=fun r hr=>by
  obtain⟨h1,h2⟩:=lM_ bu (by omega) (by omega) r;have h3:=fv_ ha (bdL_mono' h1 (show 20+8* r≤44 by omega));have h4:(dIt u r).length* (44+20+1)≤200* 65:=Nat.mul_le_mul_right _ h2;rw[hv r hr];omega
 have kq:∀r,r< 4→qs ((coP v r- evalP (dIt (heT v a r).1 r) a) / evalP (dIt (heT v a r).2 r) a)≤13010:=fun r hr=>by
  obtain⟨h1,h2⟩:=hf r hr;have h3:=vq r hr;rw[h1,show coP v r- 0=coP v r by grind];have h4:=d6_ (coP v r) (evalP (dIt (heT v a r).2 r) a)
  have h5:qs (evalP (dIt (heT v a r).2 r) a)≤4:=by
   rcases h2 with e|e|e <;> rw[e]<;> decide
  omega
 have key:∀r,r≤4→bdL (heT v a r).1 (r* 14000+1)∧bdL (heT v a r).2 (2^ r* 23- 22)∧(heT v a r).1.length≤r∧(heT v a r).2.length≤r+1:=fun r=>by
  induction r with
  |zero=>intro _;exact⟨(fun q hq=>by cases hq),(fun q hq=>by rw[List.mem_singleton.1 hq];decide),Nat.zero_le _,Nat.le_refl _⟩
  |succ r ih=>
   intro hr;obtain⟨h1,h2,h3,h4⟩:=ih (by omega);have hp:1≤2^ r∧2^ r≤2^ 3:=⟨Nat.one_le_two_pow,Nat.pow_le_pow_right (by decide) (by omega)⟩;have e8:(2:Nat) ^ 3=8:=rfl;rw[e8] at hp;have g1:=ga_ h2 (by omega) (kq r (by omega));have g2:=rI_ h1 g1 (by omega) (by omega);have g3:=lh_ (c:= -a) h2 (by omega) (show qs (-a)≤20 by rw[cQ_];exact ha);have l1:=ds_ (heT v a r).1 (aw_ (heT v a r).2 ((coP v r- evalP (dIt (heT v a r).1 r) a) / evalP (dIt (heT v a r).2 r) a));have l2:=a3_ (heT v a r).2 ((coP v r- evalP (dIt (heT v a r).1 r) a) / evalP (dIt (heT v a r).2 r) a);have l3:=eK_ (heT v a r).2 (-a);rw[heT_o,heT_z,Nat.pow_succ];exact⟨bdL_mono' g2 (by omega),bdL_mono' g3 (by omega),by omega,by omega⟩
 intro r hr;obtain⟨h1,h2,h3,h4⟩:=key r (by omega);have hp:2^ r≤2^ 3:=Nat.pow_le_pow_right (by decide) (by omega);have e8:(2:Nat) ^ 3=8:=rfl;exact⟨h1,bdL_mono' h2 (by omega),by omega,by omega,vq r hr,kq r hr⟩
end Go.Abs
