/- Part Z26 of the proof. -/
import Derived.Test.YtjgokhkahkmpbaaGreatDoorZ25
import Derived.Shelf.Strconv.Itoa3
import Derived.Shelf.Strings.Repeat
set_option linter.all false
namespace Go.Proofs.YtjgokhkahkmpbaaGreatDoor
open Go.Abs
set_option maxRecDepth 20000
set_option maxHeartbeats 8000000
def seX(d:Dt)(k:Int)(nv:Option Lq)(s:SeS):Hp:=[(0,some ⟨140,10,[seC d k nv s]⟩),(1,nW 42 nv),(2,nW 42 (seB s)),(3,some ⟨138,1,[[.lptr 0 0 0]]⟩)]
theorem SEnt.thenT{a b c:AState}(h:SEnt a b)(h':SEntT b c):SEntT a c:=fun M0 w0 x w hr=>h' M0 w0 x w (h M0 w0 x w hr)
def gdI(d:Dt)(m:Nat)(k:Int)(free:Rat)(r:Nat)(up:Bool):Nat×Dt×Option Lq×SeS→AState
 |(j,dd,nv,s)=>⟨[(2,.lptr 3 0 0),(3,bS1 m),(6,bQ free),(8,bD d),(83,.arr [[bln true],[bln false]]),(84,i64 2),(85,i64 r),(95,.clos 194 [] [bQ free,bS1 k,bB1 up])],seX dd k nv s,4,156⟩
def gdX(d:Dt)(m:Nat)(k:Int)(free:Rat)(r:Nat)(l:Lq)(sE:SeS):Dt→AState
 |dd=>⟨[(2,.lptr 3 0 0),(3,bS1 m),(6,bQ free),(8,bD d),(83,.arr [[bln true],[bln false]]),(84,i64 2),(85,i64 r)],seX dd k (some l) sE,4,156⟩
def gdS(d:Dt)(m:Nat)(k:Int)(free:Rat):Nat×Dt×Option Lq×SeS→AState
 |(r,dd,nv,s)=>⟨[(2,.lptr 3 0 0),(3,bS1 m),(6,bQ free),(8,bD d),(83,.arr [[bln true],[bln false]]),(84,i64 2),(85,i64 r)],seX dd k nv s,4,156⟩
theorem r8{r:Ren}{d:Dt}{k:Int}{nv:Option Lq}{s:SeS}{hp:Hq}(n0:Nat.blt 0 r.n=true)(n1:Nat.blt 1 r.n=true)(n2:Nat.blt 2 r.n=true)(n3:Nat.blt 3 r.n=true){cs:La}(h0:hp (r.s 0)=some ⟨140,10,[cs]⟩)(h1:hp (r.s 1)=nW 42 nv)(h2:hp (r.s 2)=nW 42 (seB s))(h3:hp (r.s 3)=some ⟨138,1,[[.lptr 0 0 0]]⟩):ShrL r hp (seX d k nv s):=
 ShrL.cons n0 h0 rfl rfl rfl (ShrL.same n1 h1 (ShrL.same n2 h2 (ShrL.cons n3 h3 rfl rfl rfl ShrL.nil)))
theorem tH{r:Ren}{d:Dt}{k:Int}{nv:Option Lq}{s:SeS}{hp hp':Hq}(hs:Shr r hp hp')(n0:Nat.blt 0 r.n=true)(n1:Nat.blt 1 r.n=true)(n2:Nat.blt 2 r.n=true)(n3:Nat.blt 3 r.n=true){cs:La}(h0:hp (r.s 0)=some ⟨140,10,[cs]⟩)(h1:hp (r.s 1)=nW 42 nv)(h2:hp (r.s 2)=nW 42 (seB s))(h3:hp (r.s 3)=some ⟨138,1,[[.lptr 0 0 0]]⟩)(e0:r.s 0=0)(g0:(hp' 0).isSome=true)(hc:CvL r hp hp' cs (seC d k nv s)):CvH r hp hp' (seX d k nv s):=
 bu n0 h0 rfl rfl (aw hc) (CvH.same hs n1 h1 bY (CvH.same hs n2 h2 bY (bu n3 h3 rfl rfl (aw (af (Cv.ptr n0 e0 g0) ay)) aD)))
theorem gH(s:SeS):∀c∈qC s.err++[bln s.got],Closed c:=cw (aU _) (ac (ag _) ai)
theorem rc(d:Dt)(k:Int)(nv:Option Lq)(s:SeS):∀i,3≤i→ap (seH d k nv s) i=none:=fun i hi=>by
 unfold seH;rw[bi (show 0≠i by omega),bi (show 1≠i by omega),bi (show 2≠i by omega)];rfl
theorem se_top(d:Dt)(k:Int)(l:Lq)(s:SeS):∀i B,ap (seH d k (some l) s) i=some B→B.sz≠0∧∀e∈B.es,∀c∈e,Top (fun j=>j< 3∧(ap (seH d k (some l) s) j).isSome=true) c:=fun i B h=>by
 have hm:=cU h;unfold seH at hm;simp only[List.mem_cons,Prod.mk.injEq,List.not_mem_nil,or_false] at hm;rcases hm with⟨rfl,hB⟩|⟨rfl,hB⟩|⟨rfl,hB⟩
 cases hB;refine⟨by simp,fun e he c hc=>?_⟩;rw[List.mem_singleton.1 he] at hc;rcases List.mem_append.1 hc with hc|hc
 simp only[List.mem_cons,List.not_mem_nil,or_false] at hc;rcases hc with rfl|rfl|rfl|rfl|rfl|rfl
 exact .clo (ao _);exact .clo (ao _);exact .clo (ao _);exact .clo (ag _);exact .sl ⟨by decide,rfl⟩
 exact Top.row fun hh=>⟨by decide,by
  show(nW 42 (seB s)).isSome=true;cases hb:seB s with
  |none=>rw[hb] at hh;cases hh
  |some x=>rfl⟩
 exact .clo (gH s c hc);exact⟨by rw[BS B hB.symm];decide,fun e he c hc=> .clo (bY B hB.symm e he c hc)⟩;exact⟨by rw[BS B hB.symm];decide,fun e he c hc=> .clo (bY B hB.symm e he c hc)⟩
theorem se_box(d:Dt)(k:Int)(nv:Option Lq)(s:SeS):∀i B,3≤i→ap (seX d k nv s) i=some B→B.sz≠0∧∀e∈B.es,∀c∈e,Top (fun j=>j=0∨3≤j) c:=fun i B hi h=>by
 have hm:=cU h;unfold seX at hm;simp only[List.mem_cons,Prod.mk.injEq,List.not_mem_nil,or_false] at hm;rcases hm with⟨rfl,_⟩|⟨rfl,_⟩|⟨rfl,_⟩|⟨rfl,hB⟩
 omega;omega;omega;cases hB;refine⟨by simp,fun e he c hc=>?_⟩;rw[List.mem_singleton.1 he] at hc;rw[List.mem_singleton.1 hc];exact .ptr (.inl rfl)
theorem se_mix(d:Dt)(k:Int)(nv:Option Lq)(s s':SeS):∀i,ap (seX d k nv s') i=if i< 3 then ap (seH d k nv s') i else ap (seX d k nv s) i:=fun i=>by
 match i with
 |0=>rfl
 |1=>rfl
 |2=>rfl
 |3=>rfl
 |i+4=>
  rw[if_neg (by omega)];unfold seX;rw[bi (show 0≠i+4 by omega),bi (show 1≠i+4 by omega),bi (show 2≠i+4 by omega),bi (show 3≠i+4 by omega),bi (show 0≠i+4 by omega),bi (show 1≠i+4 by omega),bi (show 2≠i+4 by omega),bi (show 3≠i+4 by omega)]
theorem BE(l:Lq)(c:Rat):(pE (l++[c])).take l.length=pE l:=by rw[kx,List.take_left]
theorem DZ(f:Nat)(k:Int):∀(n1:Nat) (d:Dt) (nv:Option Lq) (s s':SeS),nH f (wi k 256) n1 d (nv.getD []) s=some s'→(nv=none→s.got=false∧n1≠0)→
    XSpec Tryz.prog 89 [.lptr 0 0 0,i64 ((n1:Int)- 1)] (seH d k nv s) 3 (.tup []) (seH d k (some (nv.getD [])) s') 3
 |0,d,nv,s,s',h,hn=>by
  cases nv with
  |none=>exact absurd rfl (hn rfl).2
  |some l=>exact xs_leaf f k d l s s' h
 |m+1,d,nv,s,s',h,hn=>by
  have IH:=DZ f k m;obtain⟨l,hl⟩:∃l,l=nv.getD []:=⟨_,rfl⟩;rw[←hl] at h⊢;obtain⟨kk,hkk⟩:∃kk,kk=wi k 256:=⟨_,rfl⟩;rw[←hkk] at h IH;rw[nH] at h;cases hf:uk f d m with
  |none=>rw[hf] at h;cases h
  |some r=>
  rw[hf] at h;simp only at h;split at h
  case isFalse=>cases h
  case isTrue ok=>
  obtain⟨o1,o2,o3,o4,o5⟩:=ok;obtain⟨free,hfr⟩:∃free,free=yL r.1 m:=⟨_,rfl⟩;rw[←hfr] at o1 o2 h;cases hg1:goM (fun d'=>bdM f d' m) (nH f kk m) d m l (owS kk true) f (owA free kk true) s with
  |none=>rw[hg1] at h;cases h
  |some s1=>
  rw[hg1] at h;simp only at h;have hfit:=AO f d m r hf;have hdg:=bZ r.1 (by omega);have hld:=kK r.1 (by omega);rw[show(((m+1:Nat):Int)- 1)=(m:Int) by omega];unfold seH;refine XSpec.enter0 Tryz.func89 rfl (by kernel_rfl) rfl rfl rfl rfl ?_;refine r_z 2 ?_;refine ae (q_z 2 ?_);refine cF (an (r_z 1 ?_));refine AWp.ent (st':=⟨[(2,.lptr 3 0 0),(3,bS1 m),(6,.lptr 4 0 0)],seX d k nv s++[(4,some ⟨42,3,[zC]⟩)],5,156⟩) ?_ ?_;refine db [(3,2),(4,6)] rfl rfl rfl (ShrL.cons rfl rfl rfl rfl rfl (ShrL.same rfl rfl (ShrL.same rfl rfl (ShrL.cons rfl rfl rfl rfl rfl (ShrL.cons rfl rfl rfl rfl rfl ShrL.nil))))) (fun hs=>aj rfl (Cv.ptr rfl rfl rfl) (aj rfl (Cv.boxp hs rfl (aQ rfl) rfl (ac (ag _) ai)) (aj rfl (Cv.ptr rfl rfl rfl) aG))) (fun hs=>?_);exact bu rfl rfl rfl rfl (aw (af (ah hs (ao _)) (af (ah hs (ao _)) (af (ah hs (ao _)) (af (ah hs (ag _)) (af (Cv.row hs rfl rfl rfl) (af (Cv.row hs rfl rfl rfl) (CvL.clo hs (gH _))))))))) (CvH.same hs rfl rfl bY (CvH.same hs rfl rfl bY (bu rfl rfl rfl rfl (aw (af (Cv.ptr rfl rfl rfl) ay)) (bu rfl rfl rfl rfl (aw (CvL.clo hs bJ)) aD))));refine aZ (fun _:Unit=>⟨[(2,.lptr 3 0 0),(3,bS1 m),(6,bQ free)],seX d k nv s,4,156⟩) (fun _=>True) ?_ ?_;refine ae (r_d hmix 8 ?_);refine c_s (hfit) ?_;refine a_2 ?_;refine aq (n_k ?_);by_cases hd:ct r.1=(m:Int);have hfe:free=aS r.1:=by rw[hfr];exact if_pos hd
  refine ae (r_d hmix 4 ?_);refine c_s (hdg) ?_;refine a_1 ?_;refine o_0 (.bin rfl rfl (vT aV (eqI hd))) ?_;refine aq (n_k ?_);refine cT (r_m 3 ?_);refine c_s (hld) ?_;refine a_z ?_;refine⟨(),trivial,?_⟩;rw[hfe];refine db [] rfl rfl rfl (r8 rfl rfl rfl rfl rfl rfl rfl rfl) (fun hs=>aj rfl (Cv.ptr rfl rfl rfl) (aj rfl (ah hs (bO _)) (aj rfl (Cv.boxp hs rfl (aQ rfl) rfl (aU _)) aG))) (fun hs=>?_);exact tH hs rfl rfl rfl rfl rfl rfl rfl rfl rfl rfl (af (ah hs (ao _)) (af (ah hs (ao _)) (af (ah hs (ao _)) (af (ah hs (ag _)) (af (Cv.row hs rfl rfl rfl) (af (Cv.row hs rfl rfl rfl) (CvL.clo hs (gH _))))))));have hfe:free=0:=by rw[hfr];exact if_neg hd
  refine ae (r_d hmix 4 ?_);refine c_s (hdg) ?_;refine a_1 ?_;refine o_0 (.bin rfl rfl (vF aV (neI hd))) ?_;refine aq (n_k ?_);refine cF (an ⟨(),trivial,?_⟩);rw[hfe,show bQ 0= .aptr [[.arr [],bln false,.arr []]] 0 0 by unfold bQ;rw[qC0]];refine db [] rfl rfl rfl (r8 rfl rfl rfl rfl rfl rfl rfl rfl) (fun hs=>aj rfl (Cv.ptr rfl rfl rfl) (aj rfl (ah hs (bO _)) (aj rfl ?_ aG))) (fun hs=>?_);refine Cv.sealp hs rfl (aQ rfl) Nat.zero_lt_one ?_;exact aw (af (Cv.emp _) (af (ah hs (ag _)) (af (Cv.emp _) ay)));exact tH hs rfl rfl rfl rfl rfl rfl rfl rfl rfl rfl (af (ah hs (ao _)) (af (ah hs (ao _)) (af (ah hs (ao _)) (af (ah hs (ag _)) (af (Cv.row hs rfl rfl rfl) (af (Cv.row hs rfl rfl rfl) (CvL.clo hs (gH _))))))));rintro _ _;refine r_z 6 ?_;refine ae (r_z 3 ?_);refine AWp.ent (st':=gdS d m k free (0,d,nv,s)) ?_ ?_;rw[gdS.eq_1];refine db [] rfl rfl rfl (r8 rfl rfl rfl rfl rfl rfl rfl rfl) (fun hs=>aj rfl (Cv.ptr rfl rfl rfl) (aj rfl (ah hs (bO _)) (aj rfl (ah hs (aO _)) (aj rfl (Cv.boxp hs rfl (aQ rfl) rfl (cz d)) (aj rfl (Cv.sealE hs rfl (aQ rfl) rfl rfl ?_) (aj rfl (Cv.loE hs rfl (ag _)) (aj rfl (Cv.loE hs rfl (ag _)) aG))))))) (fun hs=>?_);intro e he c hc;simp only[List.mem_cons,List.not_mem_nil,or_false] at he;rcases he with rfl|rfl <;>(rw[List.mem_singleton.1 hc];exact ag _)
  exact tH hs rfl rfl rfl rfl rfl rfl rfl rfl rfl rfl (af (ah hs (ao _)) (af (ah hs (ao _)) (af (ah hs (ao _)) (af (ah hs (ag _)) (af (Cv.row hs rfl rfl rfl) (af (Cv.row hs rfl rfl rfl) (CvL.clo hs (gH _))))))));refine aH (fun dd:Dt=>⟨[(2,.lptr 3 0 0),(8,bD d)],seX dd k (some l) s',4,156⟩) (fun _=>True) ?_ ?_
  ·refine ak (aC (gdS d m k free) (fun x=>2- x.1) (fun x=>x.1=0∧x.2.2=(nv,s)∨x.1=1∧x.2.2=(some l,s1)∨x.1=2∧x.2.2=(some l,s')) (0,d,nv,s) (.inl ⟨rfl,rfl⟩) (SEnt.refl _) ?_)
   rintro⟨r,dd,nv',s0⟩ hinv;simp only at hinv;rw[gdS.eq_1];by_cases hr2:r< 2;rotate_left
   obtain⟨rfl,hns⟩:r=2∧(nv',s0)=(some l,s'):=by
    rcases hinv with⟨e,_⟩|⟨e,_⟩|h
    omega;omega;exact h
   cases hns;refine s_r 1 ?_;refine o_0 (.bin rfl rfl (vF dY (rfl))) ?_;refine aq ?_;refine ae (cF (aB ⟨dd,trivial,?_⟩));refine db [] rfl rfl rfl (r8 rfl rfl rfl rfl rfl rfl rfl rfl) (fun hs=>aj rfl (Cv.ptr rfl rfl rfl) (aj rfl (ah hs (bG _)) aG)) (fun hs=>?_);exact tH hs rfl rfl rfl rfl rfl rfl rfl rfl rfl rfl (af (ah hs (ao _)) (af (ah hs (ao _)) (af (ah hs (ao _)) (af (ah hs (ag _)) (af (Cv.row hs rfl rfl rfl) (af (Cv.row hs rfl rfl rfl) (CvL.clo hs (gH _))))))))
   obtain⟨up,sE,hget,hgo,hnx,hst⟩:∃(up:Bool) (sE:SeS),(∀e:Nat,e=r→([[bln true],[bln false]]:Lc)[e]?=some [bln up])∧goM (fun d'=>bdM f d' m) (nH f kk m) d m l (owS kk up) f (owA free kk up) s0=some sE∧(r+1=1∧(some l,sE)=(some l,s1)∨r+1=2∧(some l,sE)=(some l,s'))∧nv'.getD []=l∧(nv'=none→s0.got=false):=by
    rcases hinv with⟨e,h2⟩|⟨e,h2⟩|⟨e,_⟩
    cases h2;exact⟨true,s1,fun i hi=>by rw[hi,e];rfl,hg1,.inl ⟨by omega,rfl⟩,hl.symm,fun h=>(hn h).1⟩;cases h2;exact⟨false,s',fun i hi=>by rw[hi,e];rfl,h,.inr ⟨by omega,rfl⟩,rfl,fun h=>by cases h⟩;omega
   have hgs:=Ay free k up f (by rw[←hkk];cases up with|true=>exact o1|false=>exact o2);rw[←hkk] at hgs;have hcl:∀c∈[bQ free,bS1 k,bB1 up],Closed c:=ac (aO _) (ac (bO _) (ac (tT _) ai));refine q_z 1 ?_;refine ae (cT (an (ae (ak (s_r 3 ?_)))))
   first|refine ax (.index_l rfl rfl (by omega) (by omega) te_189.h) rfl rfl ?_|refine ax (.index_a rfl rfl (by omega) (hget _ (by omega)) rfl te_189.h) rfl rfl ?_
   first|refine ax (.load_l1 rfl rfl (hget _ (by omega)) TG.h rfl) rfl rfl ?_|refine ax (.load_a1 rfl (hget _ (by omega)) TG.h rfl) rfl rfl ?_
   refine a_z ?_;refine ae (r_d hmix 7 ?_);refine c_s (AI free k up) ?_;refine aq (n_k ?_);have hcc:Closed (.clos 194 [] [bQ free,bS1 k,bB1 up]):=aT ai hcl
   have hcb:Closed (.arr [[bln true],[bln false]]):=aP fun e he c hc=>by
    simp only[List.mem_cons,List.not_mem_nil,or_false] at he;rcases he with rfl|rfl <;>(rw[List.mem_singleton.1 hc];exact ag _)
   refine ak (AWp.rangeFuncB (α:=Nat×Dt×Option Lq×SeS) (γ:=Dt) f (gdI d m k free r up) (fun x=>x.1) (fun x=>x.1≤f∧goM (fun d'=>bdM f d' m) (nH f kk m) d m l (owS kk up) (f- x.1) (owV free kk up x.1) x.2.2.2=some sE∧x.2.2.1.getD []=l∧(x.2.2.1=none→x.2.2.2.got=false)) (gdX d m k free r l sE) (fun e _=>e= .exit 2) (0,dd,nv',s0) rfl hgs rfl rfl ?_ (fun⟨_,_,_,_⟩=>⟨rfl,rfl⟩) (fun _=>rfl) ⟨Nat.zero_le _,hgo,hst⟩ rfl (fun _ h=>h.1) ?_ ?_ ?_ ?_ ?_);intro k xs hT;cases hT;rfl
   ·rw[gdI.eq_1]
    refine SEntT.to [] rfl rfl rfl (r8 rfl rfl rfl rfl rfl rfl rfl rfl) (fun hs=>aj rfl (Cv.ptr rfl rfl rfl) (aj rfl (ah hs (bO _)) (aj rfl (ah hs (aO _)) (aj rfl (ah hs (bG _)) (aj rfl (ah hs hcb) (aj rfl (ah hs (ag _)) (aj rfl (ah hs (ag _)) (aj rfl (ah hs hcc) aG)))))))) (fun hs=>?_);exact tH hs rfl rfl rfl rfl rfl rfl rfl rfl rfl rfl (af (ah hs (ao _)) (af (ah hs (ao _)) (af (ah hs (ao _)) (af (ah hs (ag _)) (af (Cv.row hs rfl rfl rfl) (af (Cv.row hs rfl rfl rfl) (CvL.clo hs (gH _))))))))
   ·exact hcl
   ·rintro ll ⟨j,dd,nv,s⟩ aa ⟨hj,hgoj,hlj,hnj⟩ hT
    cases hT;simp only at hj hgoj hlj hnj
    obtain⟨q,hq⟩:∃q,f- j=q+1:=by
     cases e:f- j with
     |zero=>rw[e] at hgoj;cases hgoj
     |succ q=>exact⟨q,rfl⟩
    rw[hq,goM] at hgoj;obtain⟨c,hc⟩:∃c,c=owV free kk up j:=⟨_,rfl⟩;obtain⟨d',hd'⟩:∃d',d'=lsD d c m:=⟨_,rfl⟩;rw[←hc,←hd'] at hgoj;split at hgoj
    case isFalse=>cases hgoj
    case isTrue okl=>
    have hls:=Fz d c m okl;rw[←hd'] at hls
    have cases2:(s.got=true∧∃b,bdM f d' m=some b∧sm b∧sm s.err∧s.err< b∧s=sE)∨((s.got=false∨s.got=true∧∃b,bdM f d' m=some b∧sm b∧sm s.err∧¬s.err< b)∧∃sN,nH f kk m d' (l++[c]) s=some sN∧goM (fun d'=>bdM f d' m) (nH f kk m) d m l (owS kk up) q (c+owS kk up) sN=some sE):=by
     have go:∀(x:Option SeS),(match x with|none=>none|some s1=>goM (fun d'=>bdM f d' m) (nH f kk m) d m l (owS kk up) q (c+owS kk up) s1)=some sE→∃sN,x=some sN∧goM (fun d'=>bdM f d' m) (nH f kk m) d m l (owS kk up) q (c+owS kk up) sN=some sE:=fun x hx=>by
      cases x with
      |none=>cases hx
      |some y=>exact⟨y,rfl,hx⟩
     cases hg:s.got with
     |false=>
      rw[hg,if_neg (by decide)] at hgoj;exact .inr ⟨.inl rfl,go _ hgoj⟩
     |true=>
      rw[hg,if_pos rfl] at hgoj;cases hb:bdM f d' m with
      |none=>rw[hb] at hgoj;cases hgoj
      |some b=>
      rw[hb] at hgoj;simp only at hgoj;by_cases hsm:sm b∧sm s.err;rw[if_pos hsm] at hgoj;by_cases hlt:s.err< b;rw[decide_eq_true hlt] at hgoj;cases hgoj;exact .inl ⟨rfl,b,rfl,hsm.1,hsm.2,hlt,rfl⟩;rw[decide_eq_false hlt] at hgoj;exact .inr ⟨.inr ⟨rfl,b,rfl,hsm.1,hsm.2,hlt⟩,go _ hgoj⟩;rw[if_neg hsm] at hgoj;cases hgoj
    show AWp _ _ _ _ ⟨[(96,.agg (qC (owV free kk up j))),(2,.lptr 3 0 0),(3,bS1 m),(6,bQ free),(8,bD d),(83,.arr [[bln true],[bln false]]),(84,i64 2),(85,i64 r),(95,.clos 194 [] [bQ free,bS1 k,bB1 up]),(1002,.lptr 3 0 0),(1003,bS1 m),(1006,bQ free),(1008,bD d),(1083,.arr [[bln true],[bln false]]),(1084,i64 2),(1085,i64 r),(1095,.clos 194 [] [bQ free,bS1 k,bB1 up])],seX dd k nv s,4,156⟩;rw[←hc];refine r_m 2 ?_;refine a_z ?_;refine ak (ae (r_d hmix 8 ?_));refine c_s (hls) ?_;refine a_3 ?_;refine aq (n_k ?_);rcases cases2 with⟨hg,b,hb,b1,b2,b3,rfl⟩|⟨hcont,sN,hsN,hgoN⟩
    ·have hbd:=pG f d' m b (by omega) hb
     have hcm:=dJ b s.err b1 b2;cases nv with
     |none=>rw[hnj rfl] at hg;cases hg
     |some lv=>
     obtain rfl:lv=l:=hlj;refine ae (ae (r_d hmix 19 ?_));refine a_5 ?_
     first|refine y_g rfl hg (.load_l1 rfl rfl rfl TG.h rfl) ?_|refine y_g rfl hg (.load_a1 rfl rfl TG.h rfl) ?_
     refine y_g rfl hg (.nilCheck rfl rfl) ?_
     first|refine y_g rfl hg (.fieldAddr_l rfl TF.h (by decide)) ?_|refine y_g rfl hg (.fieldAddr_a rfl TF.h (by decide)) ?_
     first|refine y_g rfl hg (.load_l rfl rfl rfl TG.h TS.h (nle rfl)) ?_|refine y_g rfl hg (.load_a rfl rfl TG.h TS.h (nle rfl)) ?_
     first|refine y_g rfl hg (.load_l1 rfl rfl rfl TG.h rfl) ?_|refine y_g rfl hg (.load_a1 rfl rfl TG.h rfl) ?_
     refine y_g rfl hg (.bin rfl rfl (jn (by omega))) ?_;refine y_g rfl hg (.call rfl rfl rfl (hbd)) ?_
     first|refine y_g rfl hg (.load_l1 rfl rfl rfl TG.h rfl) ?_|refine y_g rfl hg (.load_a1 rfl rfl TG.h rfl) ?_
     refine y_g rfl hg (.nilCheck rfl rfl) ?_
     first|refine y_g rfl hg (.fieldAddr_l rfl TF.h (by decide)) ?_|refine y_g rfl hg (.fieldAddr_a rfl TF.h (by decide)) ?_
     first|refine y_g rfl hg (.load_l rfl rfl rfl TG.h TS.h (nle rfl)) ?_|refine y_g rfl hg (.load_a rfl rfl TG.h TS.h (nle rfl)) ?_
     refine y_g rfl hg (.call rfl rfl rfl (hcm)) ?_;refine y_g rfl hg (.bin rfl rfl (vT fl (decide_eq_true (cq_gt.2 b3)))) ?_;refine o_0 (.pickT rfl hg rfl) ?_;refine aq (n_k ?_);refine cT (aB (⟨rfl,d',rfl,?_⟩));show SEntT _ ⟨[(1002,.lptr 3 0 0),(1003,bS1 m),(1006,bQ free),(1008,bD d),(1083,.arr [[bln true],[bln false]]),(1084,i64 2),(1085,i64 r)],seX d' k (some lv) s,4,156⟩;refine SEntT.to [] rfl rfl rfl (r8 rfl rfl rfl rfl rfl rfl rfl rfl) (fun hs=>aj rfl (Cv.ptr rfl rfl rfl) (aj rfl (ah hs (bO _)) (aj rfl (ah hs (aO _)) (aj rfl (ah hs (bG _)) (aj rfl (ah hs hcb) (aj rfl (ah hs (ag _)) (aj rfl (ah hs (ag _)) aG))))))) (fun hs=>?_);exact tH hs rfl rfl rfl rfl rfl rfl rfl rfl rfl rfl (af (ah hs (ao _)) (af (ah hs (ao _)) (af (ah hs (ao _)) (af (ah hs (ag _)) (af (Cv.row hs rfl rfl rfl) (af (Cv.row hs rfl rfl rfl) (CvL.clo hs (gH _))))))))
    ·refine AWp.ent (st':=⟨[(11,bQ c),(2,.lptr 3 0 0),(3,bS1 m),(1002,.lptr 3 0 0),(1003,bS1 m),(1006,bQ free),(1008,bD d),(1083,.arr [[bln true],[bln false]]),(1084,i64 2),(1085,i64 r),(1095,.clos 194 [] [bQ free,bS1 k,bB1 up])],seX d' k nv s,4,156⟩) ?_ ?_
     refine db [] rfl rfl rfl (r8 rfl rfl rfl rfl rfl rfl rfl rfl) (fun hs=>aj rfl (Cv.boxp hs rfl (aQ rfl) rfl (aU _)) (aj rfl (Cv.ptr rfl rfl rfl) (aj rfl (ah hs (bO _)) (aj rfl (Cv.ptr rfl rfl rfl) (aj rfl (ah hs (bO _)) (aj rfl (ah hs (aO _)) (aj rfl (ah hs (bG _)) (aj rfl (ah hs hcb) (aj rfl (ah hs (ag _)) (aj rfl (ah hs (ag _)) (aj rfl (ah hs hcc) aG))))))))))) (fun hs=>?_);exact tH hs rfl rfl rfl rfl rfl rfl rfl rfl rfl rfl (af (ah hs (ao _)) (af (ah hs (ao _)) (af (ah hs (ao _)) (af (ah hs (ag _)) (af (Cv.row hs rfl rfl rfl) (af (Cv.row hs rfl rfl rfl) (CvL.clo hs (gH _))))))));refine aZ (fun _:Unit=>⟨[(11,bQ c),(2,.lptr 3 0 0),(3,bS1 m),(1002,.lptr 3 0 0),(1003,bS1 m),(1006,bQ free),(1008,bD d),(1083,.arr [[bln true],[bln false]]),(1084,i64 2),(1085,i64 r),(1095,.clos 194 [] [bQ free,bS1 k,bB1 up])],seX d' k nv s,4,156⟩) (fun _=>True) ?_ ?_;rcases hcont with hg|⟨hg,b,hb,b1,b2,b3⟩
     refine ae (r_d hmix 19 ?_);refine a_5 ?_;refine n_g rfl hg ?_;refine n_g rfl hg ?_;refine n_g rfl hg ?_;refine n_g rfl hg ?_;refine n_g rfl hg ?_;refine n_g rfl hg ?_;refine n_g rfl hg ?_;refine n_g rfl hg ?_;refine n_g rfl hg ?_;refine n_g rfl hg ?_;refine n_g rfl hg ?_;refine n_g rfl hg ?_;refine n_g rfl hg ?_;refine o_0 (.pickF rfl hg rfl) ?_;refine aq (n_k ?_);refine cF (an ⟨(),trivial,?_⟩);refine db [] rfl rfl rfl (r8 rfl rfl rfl rfl rfl rfl rfl rfl) (fun hs=>aj rfl (ah hs (aO _)) (aj rfl (Cv.ptr rfl rfl rfl) (aj rfl (ah hs (bO _)) (aj rfl (Cv.ptr rfl rfl rfl) (aj rfl (ah hs (bO _)) (aj rfl (ah hs (aO _)) (aj rfl (ah hs (bG _)) (aj rfl (ah hs hcb) (aj rfl (ah hs (ag _)) (aj rfl (ah hs (ag _)) (aj rfl (ah hs hcc) aG))))))))))) (fun hs=>?_);exact tH hs rfl rfl rfl rfl rfl rfl rfl rfl rfl rfl (af (ah hs (ao _)) (af (ah hs (ao _)) (af (ah hs (ao _)) (af (ah hs (ag _)) (af (Cv.row hs rfl rfl rfl) (af (Cv.row hs rfl rfl rfl) (CvL.clo hs (gH _))))))));have hbd:=pG f d' m b (by omega) hb;have hcm:=dJ b s.err b1 b2;refine ae (r_d hmix 19 ?_);refine a_5 ?_
     first|refine y_g rfl hg (.load_l1 rfl rfl rfl TG.h rfl) ?_|refine y_g rfl hg (.load_a1 rfl rfl TG.h rfl) ?_
     refine y_g rfl hg (.nilCheck rfl rfl) ?_
     first|refine y_g rfl hg (.fieldAddr_l rfl TF.h (by decide)) ?_|refine y_g rfl hg (.fieldAddr_a rfl TF.h (by decide)) ?_
     first|refine y_g rfl hg (.load_l rfl rfl rfl TG.h TS.h (nle rfl)) ?_|refine y_g rfl hg (.load_a rfl rfl TG.h TS.h (nle rfl)) ?_
     first|refine y_g rfl hg (.load_l1 rfl rfl rfl TG.h rfl) ?_|refine y_g rfl hg (.load_a1 rfl rfl TG.h rfl) ?_
     refine y_g rfl hg (.bin rfl rfl (jn (by omega))) ?_;refine y_g rfl hg (.call rfl rfl rfl (hbd)) ?_
     first|refine y_g rfl hg (.load_l1 rfl rfl rfl TG.h rfl) ?_|refine y_g rfl hg (.load_a1 rfl rfl TG.h rfl) ?_
     refine y_g rfl hg (.nilCheck rfl rfl) ?_
     first|refine y_g rfl hg (.fieldAddr_l rfl TF.h (by decide)) ?_|refine y_g rfl hg (.fieldAddr_a rfl TF.h (by decide)) ?_
     first|refine y_g rfl hg (.load_l rfl rfl rfl TG.h TS.h (nle rfl)) ?_|refine y_g rfl hg (.load_a rfl rfl TG.h TS.h (nle rfl)) ?_
     refine y_g rfl hg (.call rfl rfl rfl (hcm)) ?_;refine y_g rfl hg (.bin rfl rfl (vF fl (decide_eq_false (mt cq_gt.1 b3)))) ?_;refine o_0 (.pickT rfl hg rfl) ?_;refine aq (n_k ?_);refine cF (an ⟨(),trivial,?_⟩);refine db [] rfl rfl rfl (r8 rfl rfl rfl rfl rfl rfl rfl rfl) (fun hs=>aj rfl (ah hs (aO _)) (aj rfl (Cv.ptr rfl rfl rfl) (aj rfl (ah hs (bO _)) (aj rfl (Cv.ptr rfl rfl rfl) (aj rfl (ah hs (bO _)) (aj rfl (ah hs (aO _)) (aj rfl (ah hs (bG _)) (aj rfl (ah hs hcb) (aj rfl (ah hs (ag _)) (aj rfl (ah hs (ag _)) (aj rfl (ah hs hcc) aG))))))))))) (fun hs=>?_);exact tH hs rfl rfl rfl rfl rfl rfl rfl rfl rfl rfl (af (ah hs (ao _)) (af (ah hs (ao _)) (af (ah hs (ao _)) (af (ah hs (ag _)) (af (Cv.row hs rfl rfl rfl) (af (Cv.row hs rfl rfl rfl) (CvL.clo hs (gH _))))))));rintro _ _;refine aZ (fun _:Unit=>⟨[(2,.lptr 3 0 0),(3,bS1 m),(1002,.lptr 3 0 0),(1003,bS1 m),(1006,bQ free),(1008,bD d),(1083,.arr [[bln true],[bln false]]),(1084,i64 2),(1085,i64 r),(1095,.clos 194 [] [bQ free,bS1 k,bB1 up])],seX d' k (some (l++[c])) s,4,156⟩) (fun _=>True) ?_ ?_;cases nv with
     |none=>
      obtain rfl:[]=l:=hlj;refine r_d hmix 11 ?_;refine a_8 ?_;refine a_3 ?_;refine aq (n_k ?_);refine⟨(),trivial,?_⟩;refine db [(1,130)] rfl rfl rfl (ShrL.cons rfl rfl rfl rfl rfl (ShrL.cons rfl rfl rfl rfl rfl (ShrL.same rfl rfl (ShrL.cons rfl rfl rfl rfl rfl ShrL.nil)))) (fun hs=>aj rfl (Cv.ptr rfl rfl rfl) (aj rfl (ah hs (bO _)) (aj rfl (Cv.ptr rfl rfl rfl) (aj rfl (ah hs (bO _)) (aj rfl (ah hs (aO _)) (aj rfl (ah hs (bG _)) (aj rfl (ah hs hcb) (aj rfl (ah hs (ag _)) (aj rfl (ah hs (ag _)) (aj rfl (ah hs hcc) aG)))))))))) (fun hs=>?_);exact bu rfl rfl rfl rfl (aw (af (ah hs (ao _)) (af (ah hs (ao _)) (af (ah hs (ao _)) (af (ah hs (ag _)) (af (Cv.slE rfl rfl rfl rfl (by simp) rfl) (af (Cv.row hs rfl rfl rfl) (CvL.clo hs (gH _))))))))) (bu rfl rfl rfl rfl (b9 hs (aF [c])) (CvH.same hs rfl rfl bY (bu rfl rfl rfl rfl (aw (af (Cv.ptr rfl rfl rfl) ay)) aD)))
     |some lv=>
      obtain rfl:lv=l:=hlj;have hon:=cL lv;have hlv:(pE lv).length=lv.length:=by simp[pE]
      have hpa:pE lv++[qC c]=pE (lv++[c]):=by simp[pE]
      refine r_d hmix 11 ?_;refine a_8 ?_;refine a_3 ?_;refine aq (n_k ?_);refine⟨(),trivial,?_⟩;refine db [(1,130)] rfl rfl rfl (ShrL.cons rfl rfl rfl rfl rfl (ShrL.cons rfl rfl rfl rfl (by simp) (ShrL.same rfl rfl (ShrL.cons rfl rfl rfl rfl rfl ShrL.nil)))) (fun hs=>aj rfl (Cv.ptr rfl rfl rfl) (aj rfl (ah hs (bO _)) (aj rfl (Cv.ptr rfl rfl rfl) (aj rfl (ah hs (bO _)) (aj rfl (ah hs (aO _)) (aj rfl (ah hs (bG _)) (aj rfl (ah hs hcb) (aj rfl (ah hs (ag _)) (aj rfl (ah hs (ag _)) (aj rfl (ah hs hcc) aG)))))))))) (fun hs=>?_);exact bu rfl rfl rfl rfl (aw (af (ah hs (ao _)) (af (ah hs (ao _)) (af (ah hs (ao _)) (af (ah hs (ag _)) (af (Cv.slE rfl rfl rfl rfl (by simp) rfl) (af (Cv.row hs rfl rfl rfl) (CvL.clo hs (gH _))))))))) (bu rfl rfl rfl rfl (aI hs hpa (aF _)) (CvH.same hs rfl rfl bY (bu rfl rfl rfl rfl (aw (af (Cv.ptr rfl rfl rfl) ay)) aD)))
     rintro _ _;have hXs:=IH d' (some (l++[c])) s sN hsN (fun h=>by cases h);rw[show(some (l++[c])).getD []=l++[c] from rfl] at hXs;refine ae (AWp.regF (fr2:=[(133,.lptr 0 0 0),(135,i64 ((m:Int)- 1)),(2,.lptr 3 0 0),(3,bS1 m),(1002,.lptr 3 0 0),(1003,bS1 m),(1006,bQ free),(1008,bD d),(1083,.arr [[bln true],[bln false]]),(1084,i64 2),(1085,i64 r),(1095,.clos 194 [] [bQ free,bS1 k,bB1 up])]) (hp2:=seX d' k (some (l++[c])) s) (nx2:=4) (k:=3) (hpc:=seH d' k (some (l++[c])) s) (hpd:=seH d' k (some (l++[c])) sN) (hp3:=seX d' k (some (l++[c])) sN) (fr3:=[(2,.lptr 3 0 0),(3,bS1 m),(1002,.lptr 3 0 0),(1003,bS1 m),(1006,bQ free),(1008,bD d),(1083,.arr [[bln true],[bln false]]),(1084,i64 2),(1085,i64 r),(1095,.clos 194 [] [bQ free,bS1 k,bB1 up])]) 3 rfl rfl rfl rfl rfl ?_ (fun d h=>by cases h;rfl) rfl rfl hXs (by decide) (Nat.le_refl _) ?_ ?_ (rc _ _ _ _) (se_top _ _ _ _) (se_box _ _ _ _) (se_mix _ _ _ _ _) (rc _ _ _ _) rfl rfl ?_ ?_)
     first|refine ax (.load_l1 rfl rfl rfl TG.h rfl) rfl rfl ?_|refine ax (.load_a1 rfl rfl TG.h rfl) rfl rfl ?_
     first|refine ax (.load_l1 rfl rfl rfl TG.h rfl) rfl rfl ?_|refine ax (.load_a1 rfl rfl TG.h rfl) rfl rfl ?_
     refine o_0 (.bin rfl rfl (jn (by omega))) ?_;refine aq ?_;refine SEntT.to [] rfl rfl rfl (r8 rfl rfl rfl rfl rfl rfl rfl rfl) (fun hs=>aj rfl (Cv.ptr rfl rfl rfl) (aj rfl (ah hs (ag _)) (aj rfl (Cv.ptr rfl rfl rfl) (aj rfl (ah hs (bO _)) (aj rfl (Cv.ptr rfl rfl rfl) (aj rfl (ah hs (bO _)) (aj rfl (ah hs (aO _)) (aj rfl (ah hs (bG _)) (aj rfl (ah hs hcb) (aj rfl (ah hs (ag _)) (aj rfl (ah hs (ag _)) (aj rfl (ah hs hcc) aG)))))))))))) (fun hs=>?_);exact tH hs rfl rfl rfl rfl rfl rfl rfl rfl rfl rfl (af (ah hs (ao _)) (af (ah hs (ao _)) (af (ah hs (ao _)) (af (ah hs (ag _)) (af (Cv.row hs rfl rfl rfl) (af (Cv.row hs rfl rfl rfl) (CvL.clo hs (gH _))))))));intro x hx;simp only[List.append_nil,List.mem_cons,List.not_mem_nil,or_false] at hx;rcases hx with rfl|rfl
     exact .ptr ⟨by decide,rfl⟩;exact .clo (ag _);intro i hi
     match i,hi with
     |0,_=>rfl
     |1,_=>rfl
     |2,_=>rfl
     intro t x hx;have hm:=look_mem' hx;simp only[List.mem_cons,Prod.mk.injEq,List.not_mem_nil,or_false] at hm;rcases hm with⟨rfl,rfl⟩|⟨rfl,rfl⟩|⟨rfl,rfl⟩|⟨rfl,rfl⟩|⟨rfl,rfl⟩|⟨rfl,rfl⟩|⟨rfl,rfl⟩|⟨rfl,rfl⟩|⟨rfl,rfl⟩|⟨rfl,rfl⟩
     exact⟨rfl,.ptr (.inr (Nat.le_refl _))⟩;exact⟨rfl,.clo (bO _)⟩;exact⟨rfl,.ptr (.inr (Nat.le_refl _))⟩;exact⟨rfl,.clo (bO _)⟩;exact⟨rfl,.clo (aO _)⟩;exact⟨rfl,.clo (bG _)⟩;exact⟨rfl,.clo hcb⟩;exact⟨rfl,.clo (ag _)⟩;exact⟨rfl,.clo (ag _)⟩;exact⟨rfl,.clo hcc⟩;refine aq ?_;have hlen:(l++[c]).length=l.length+1:=by simp
     refine r_d hmix 15 ?_;refine a_8 ?_;refine a_3 ?_;refine o_0 (.slice_l (l:=0) (h:=l.length) rfl ⟨⟨_,rfl,.inl ⟨rfl,rfl⟩⟩,⟨_,rfl,.inr ⟨_,_,rfl,by simp⟩⟩,⟨_,rfl,.inl ⟨rfl,rfl⟩⟩⟩ (Nat.zero_le _) (by simp) (.inl rfl) te_30.h) ?_;refine a_3 ?_;refine aq (n_k ?_);refine⟨(j+1,d',some l,sN),⟨⟨by simp only;omega,?_,rfl,fun h=>by cases h⟩,rfl⟩,?_⟩;simp only;rw[show f- (j+1)=q by omega,owV,←hc];exact hgoN;show SEntT _ ⟨[(1002,.lptr 3 0 0),(1003,bS1 m),(1006,bQ free),(1008,bD d),(1083,.arr [[bln true],[bln false]]),(1084,i64 2),(1085,i64 r),(1095,.clos 194 [] [bQ free,bS1 k,bB1 up])],seX d' k (some l) sN,4,156⟩;refine SEnt.thenT (SEnt.cut 1 l.length (hp':=(1,some ⟨42,3,(pE (l++[c])).take l.length⟩)::_) (B:=⟨42,3,pE (l++[c])⟩) rfl (show(3:Nat)≠0 by decide) (fun j=>by rw[dk];rfl)) ?_;refine SEntT.to [] rfl rfl rfl (ShrL.cons rfl rfl rfl rfl rfl (ShrL.cons rfl rfl rfl rfl (by rw[BE]) (ShrL.same rfl rfl (ShrL.cons rfl rfl rfl rfl rfl ShrL.nil)))) (fun hs=>aj rfl (Cv.ptr rfl rfl rfl) (aj rfl (ah hs (bO _)) (aj rfl (ah hs (aO _)) (aj rfl (ah hs (bG _)) (aj rfl (ah hs hcb) (aj rfl (ah hs (ag _)) (aj rfl (ah hs (ag _)) (aj rfl (ah hs hcc) aG)))))))) (fun hs=>?_);exact bu rfl rfl rfl rfl (aw (af (ah hs (ao _)) (af (ah hs (ao _)) (af (ah hs (ao _)) (af (ah hs (ag _)) (af (Cv.slE rfl rfl rfl rfl rfl rfl) (af (Cv.row hs rfl rfl rfl) (CvL.clo hs (gH _))))))))) (bu rfl rfl rfl rfl (aI hs (BE l c) (aF _)) (CvH.same hs rfl rfl bY (bu rfl rfl rfl rfl (aw (af (Cv.ptr rfl rfl rfl) ay)) aD)))
   intro x hx hT;cases hT;rintro e dd rfl;show AWp _ _ _ _ (gdX d m k free r l sE dd);rw[gdX.eq_1];refine r_m 2 ?_;refine a_z ?_;refine⟨(r+1,dd,some l,sE),by simp only;omega,.inr hnx,?_⟩;rw[gdS.eq_1];refine db [] rfl rfl rfl (r8 rfl rfl rfl rfl rfl rfl rfl rfl) (fun hs=>aj rfl (Cv.ptr rfl rfl rfl) (aj rfl (ah hs (bO _)) (aj rfl (ah hs (aO _)) (aj rfl (ah hs (bG _)) (aj rfl (ah hs hcb) (aj rfl (ah hs (ag _)) (aj rfl (Cv.loE hs (by simp[i64]) (ag _)) aG))))))) (fun hs=>?_);exact tH hs rfl rfl rfl rfl rfl rfl rfl rfl rfl rfl (af (ah hs (ao _)) (af (ah hs (ao _)) (af (ah hs (ao _)) (af (ah hs (ag _)) (af (Cv.row hs rfl rfl rfl) (af (Cv.row hs rfl rfl rfl) (CvL.clo hs (gH _))))))))
  rintro dd _;refine r_m 5 ?_;refine a_z ?_;refine FinX0.norm ?_;refine db [] rfl rfl rfl (ShrL.cons rfl rfl rfl rfl rfl (ShrL.same rfl rfl (ShrL.same rfl rfl ShrL.nil))) (fun hs=>aG) (fun hs=>?_);exact bu rfl rfl rfl rfl (aw (af (ah hs (ao _)) (af (ah hs (ao _)) (af (ah hs (ao _)) (af (ah hs (ag _)) (af (Cv.row hs rfl rfl rfl) (af (Cv.row hs rfl rfl rfl) (CvL.clo hs (gH _))))))))) (CvH.same hs rfl rfl bY (CvH.same hs rfl rfl bY aD))
section
variable {l:Lq}{i:Nat}
def rvF(l:Lq)(i t:Nat):Rat:=if t< i∨l.length≤t+i then coP l (l.length- 1- t) else coP l t
def rvL(l:Lq)(i:Nat):Lq:=aL l.length (rvF l i)
theorem mU(l:Lq)(i:Nat):(rvL l i).length=l.length:=by simp[rvL,aL]
theorem BO{a b:Nat→Rat}(h:∀t,t< l.length→a t=b t):aL l.length a=aL l.length b:=by
 unfold aL;exact List.map_congr_left fun t ht=>h t (List.mem_range.1 ht)
theorem tab_co(l:Lq):aL l.length (fun t=>coP l t)=l:=by
 refine List.ext_getElem (by simp[aL]) fun i h1 h2=>?_;simp only[aL,List.getElem_map,List.getElem_range];unfold coP;rw[List.getD_eq_getElem?_getD,List.getElem?_eq_getElem h2];rfl
theorem rvL_0(l:Lq):rvL l 0=l:=by
 have:rvL l 0=aL l.length fun t=>coP l t:=BO fun t ht=>by unfold rvF;rw[if_neg (by omega)]
 rw[this,tab_co]
theorem rvL_end(h:l.length≤2* i+1):rvL l i=l.reverse:=by
 have h1:rvL l i=aL l.length fun t=>coP l (l.length- 1- t):=BO fun t ht=>by
  unfold rvF;by_cases g:t< i∨l.length≤t+i;rw[if_pos g];rw[if_neg g,show l.length- 1- t=t by omega]
 rw[h1];refine List.ext_getElem (by simp[aL]) fun j h1 h2=>?_;simp only[aL,List.getElem_map,List.getElem_range,List.getElem_reverse];simp only[List.length_reverse] at h2;unfold coP;rw[List.getD_eq_getElem?_getD,List.getElem?_eq_getElem (by omega)];rfl
theorem BN{t:Nat}(ht:t< l.length):∀e,e=t→(pE (rvL l i))[e]?=some (qC (rvF l i t)):=qY (rvF l i) ht
theorem rvL_set(h:2* i+1< l.length):((rvL l i).set i (coP l (l.length- 1- i))).set (l.length- 1- i) (coP l i)=rvL l (i+1):=by
 refine List.ext_getElem (by simp[rvL,aL]) fun t h1 h2=>?_;rw[mU] at h2;rw[List.getElem_set,List.getElem_set];simp only[rvL,aL,List.getElem_map,List.getElem_range];unfold rvF;by_cases e1:l.length- 1- i=t;rw[if_pos e1,if_pos (by omega),←e1,show l.length- 1- (l.length- 1- i)=i by omega];rw[if_neg e1];by_cases e2:i=t;rw[if_pos e2,if_pos (by omega),←e2];rw[if_neg e2];by_cases g:t< i∨l.length≤t+i;rw[if_pos g,if_pos (by omega)];rw[if_neg g,if_neg (by omega)]
def rvS(l:Lq):Nat→AState
 |i=>⟨[(0,.lsl 0 0 l.length none 3),(2,i64 i),(3,i64 ((l.length:Int)- 1- (i:Int)))],[(0,some ⟨42,3,pE (rvL l i)⟩)],1,28⟩
theorem A8(l:Lq)(n:Nat)(hn:l.length=n)(hl:l.length≤1000):ESpec Tryz.prog 90 42 3 (pE l) (pE l.reverse) 0 n none [] (.tuple #[]):=by
 subst hn;have hll:(pE l).length=l.length:=by simp[pE]
 refine ESpec.enter Tryz.func90 rfl (by kernel_rfl) rfl rfl rfl ?_ ?_ ?_ rfl ?_;exact ai;exact aF l;exact aF _;refine r_z 5 ?_;refine ak (aC (rvS l) (fun i=>l.length- i) (fun i=>2* i≤l.length+1) 0 (Nat.zero_le _) ?_ ?_);rw[rvS.eq_1,rvL_0];refine s_x [] (fun hs=>?_) (fun hs=>?_)
 ·repeat' (first|exact aG|refine aj rfl ?_ ?_|(refine Cv.loE hs ?_ (ag _);simp[i64];done)|exact aW)
 ·repeat' (first|exact aD|refine h_c ?_ ?_|exact bC|refine aw ?_|exact ay|refine af ?_ ?_|(refine Cv.loE hs ?_ (ag _);simp[i64];done)|exact aW)
 intro i hi;rw[rvS.eq_1];have hrl:=mU l i;by_cases hlt:2* i+1< l.length;have hgi:=BN (l:=l) (i:=i) (t:=i) (by omega);have hgj:=BN (l:=l) (i:=i) (t:=l.length- 1- i) (by omega);have e1:rvF l i i=coP l i:=by unfold rvF;rw[if_neg (by omega)]
 have e2:rvF l i (l.length- 1- i)=coP l (l.length- 1- i):=by unfold rvF;rw[if_neg (by omega)]
 rw[e1] at hgi;rw[e2] at hgj
 have hgj2:∀e e',e=i→e'=l.length- 1- i→((pE (rvL l i)).set e (qC (coP l (l.length- 1- i))))[e']?=some (qC (coP l (l.length- 1- i))):=fun e e' he he'=>by
  rw[List.getElem?_set_ne (by omega)];exact hgj _ he'
 have hst:∀e e',e=i→e'=l.length- 1- i→((pE (rvL l i)).set e (qC (coP l (l.length- 1- i)))).set e' (qC (coP l i))=pE (rvL l (i+1)):=fun e e' he he'=>by
  rw[he,he',jD,jD,rvL_set hlt]
 have hl2:=mU l (i+1);refine ae (q_z 3 ?_);refine cT (an (ae (ak (r_d hmix 16 ?_))));refine a_7 ?_
 first|refine ax (.load_l rfl rfl (hgj _ (by omega)) TG.h TS.h (nle rfl)) rfl rfl ?_|refine ax (.load_a rfl (hgj _ (by omega)) TG.h TS.h (nle rfl)) rfl rfl ?_
 refine a_3 ?_
 first|refine ax (.load_l rfl rfl (hgi _ (by omega)) TG.h TS.h (nle rfl)) rfl rfl ?_|refine ax (.load_a rfl (hgi _ (by omega)) TG.h TS.h (nle rfl)) rfl rfl ?_
 refine a_1 ?_;refine ep (.store rfl rfl (hgi _ (by omega)) rfl rfl rfl TS.h (nle rfl)) ?_;refine a_1 ?_;refine ep (.store rfl rfl (hgj2 _ _ (by omega) (by omega)) rfl rfl rfl TS.h (nle rfl)) ?_;refine aq (n_k ?_);refine r_m 6 ?_;refine a_z ?_;refine⟨i+1,by omega,by omega,?_⟩;rw[rvS.eq_1];refine s_x [] (fun hs=>?_) (fun hs=>?_) ?_
 ·repeat' (first|exact aG|refine aj rfl ?_ ?_|(refine Cv.loE hs ?_ (ag _);simp[i64];omega)|exact aW)
 ·repeat' (first|exact aD|refine h_c ?_ ?_|exact aI hs (hst _ _ (by omega) (by omega)) (aF _)|exact bC|refine aw ?_|exact ay|refine af ?_ ?_|(refine Cv.loE hs ?_ (ag _);simp[i64];omega)|exact aW)
 ·repeat' (first|exact ShrL.nil|refine ShrL.cons rfl rfl rfl rfl (by first|(simp[hrl,hl2])|rfl|(simp;done)|(simp <;> omega)) ?_)
 refine ae (q_z 3 ?_);refine cF (aB ?_);rw[rvL_end (by omega)];exact FinE.none (.inl rfl) rfl rfl
theorem se_boxG(d:Dt)(k:Int)(nv:Option Lq)(s:SeS):∀i B,3≤i→ap (seH d k nv s++[(3,some ⟨42,3,[zC]⟩)]) i=some B→B.sz≠0∧∀e∈B.es,∀c∈e,Top (fun j=>j=0∨3≤j) c:=fun i B hi h=>by
 have hm:=cU h;unfold seH at hm;simp only[List.cons_append,List.nil_append,List.mem_cons,Prod.mk.injEq,List.not_mem_nil,or_false] at hm;rcases hm with⟨rfl,_⟩|⟨rfl,_⟩|⟨rfl,_⟩|⟨rfl,hB⟩
 omega;omega;omega;cases hB;refine⟨by simp,fun e he c hc=>?_⟩;rw[List.mem_singleton.1 he] at hc;exact .clo (bJ c hc)
theorem se_mixG(d:Dt)(k:Int)(nv nv':Option Lq)(s s':SeS):∀i,ap (seH d k nv' s'++[(3,some ⟨42,3,[zC]⟩)]) i=if i< 3 then ap (seH d k nv' s') i else ap (seH d k nv s++[(3,some ⟨42,3,[zC]⟩)]) i:=fun i=>by
 match i with
 |0=>rfl
 |1=>rfl
 |2=>rfl
 |3=>rfl
 |i+4=>
  rw[if_neg (by omega)];unfold seH;simp only[List.cons_append,List.nil_append];rw[bi (show 0≠i+4 by omega),bi (show 1≠i+4 by omega),bi (show 2≠i+4 by omega),bi (show 3≠i+4 by omega),bi (show 0≠i+4 by omega),bi (show 1≠i+4 by omega),bi (show 2≠i+4 by omega),bi (show 3≠i+4 by omega)]
theorem se_top0(d:Dt)(k:Int):∀i B,ap (seH d k none ⟨[],0,false⟩) i=some B→B.sz≠0∧∀e∈B.es,∀c∈e,Top (fun j=>j< 3∧(ap (seH d k none ⟨[],0,false⟩) j).isSome=true) c:=fun i B h=>by
 have hm:=cU h;unfold seH at hm;simp only[List.mem_cons,Prod.mk.injEq,List.not_mem_nil,or_false] at hm;rcases hm with⟨rfl,hB⟩|⟨rfl,hB⟩|⟨rfl,hB⟩
 cases hB;refine⟨by simp,fun e he c hc=> .clo ?_⟩;rw[List.mem_singleton.1 he] at hc;rcases List.mem_append.1 hc with hc|hc
 simp only[List.mem_cons,List.not_mem_nil,or_false] at hc;rcases hc with rfl|rfl|rfl|rfl|rfl|rfl
 exact ao _;exact ao _;exact ao _;exact ag _;exact aN;exact aN;exact gH _ c hc;cases hB;cases hB
theorem fs_Grid(f:Nat)(d:Dt)(n:Nat)(k:Int)(B:Lq)(E:Rat)(h:C6 d=true)(hs:smL d.X)(hn:n≤3)(hx:n+1≤d.X.length)(hM:nH f (wi k 256) (n+1) d [] ⟨[],0,false⟩=some ⟨B,E,true⟩)(hb:B.length≤1000):
    FS 29 [.agg (dC d),i64 n,i64 k] (.tup [.arr (pE (av B.reverse)),.agg (qC E),i64 0]):=by
 have hc:=oG d h hs;have hXs:=DZ f k (n+1) d none ⟨[],0,false⟩ ⟨B,E,true⟩ hM (fun _=>⟨rfl,by simp⟩);rw[show(none:Option Lq).getD []=[] from rfl,show(((n+1:Nat):Int)- 1)=(n:Int) by omega] at hXs;have hrv:=A8 B B.length rfl hb;have htr:=cY B.reverse (by simp;omega)
 have htr2:FS 21 [.arr (List.take B.length (List.drop 0 (pE B.reverse)))] (.arr (pE (av B.reverse))):=by
  rw[List.drop_zero,List.take_of_length_le (by simp)];exact htr
 have hxl:(pE d.X).length=d.X.length:=by simp[pE]
 refine f_n Tryz.func29 ?_ ?_;exact ac (aK (cz d)) (ac (ag _) (ac (ag _) ai));refine r_z 4 ?_;refine ae (r_c 3 (hc) ?_);refine a_z ?_;refine AWp.ent (st':=⟨[(1,i64 n),(2,i64 k),(3,bD d),(7,.lptr 1 0 0),(9,i64 0)],[(1,some ⟨42,3,[zC]⟩)],2,55⟩) ?_ ?_;have:=cz d;exact s_f [(1,7)];refine aH (fun _:Unit=>⟨[(1,i64 n),(2,i64 k),(3,bD d),(7,.lptr 1 0 0)],[(1,some ⟨42,3,[zC]⟩)],2,55⟩) (fun _=>True) ?_ ?_;refine ak (s_r 3 ?_);refine a_1 ?_;refine o_0 (.bin rfl rfl (vF cu (rfl))) ?_;refine a_z ?_;refine cF (q_z 7 ?_);refine cF (q_z 7 ?_);refine cF (an ⟨(),trivial,?_⟩);have:=bG d;exact s_f [];rintro _ _;refine r_z 5 ?_;refine AWp.pinned (st':=⟨[(1,i64 n),(7,.lptr 3 0 0),(10,.lptr 0 0 0)],[(0,some ⟨140,10,[seC d k none ⟨[],0,false⟩]⟩),(3,some ⟨42,3,[zC]⟩)],4,55⟩) ?_ ?_;refine SEntP.to [(0,10),(3,7)] rfl rfl (ShrL.cons rfl rfl rfl rfl rfl (ShrL.cons rfl rfl rfl rfl rfl ShrL.nil)) (fun hs=>aj rfl (ah hs (ag _)) (aj rfl (Cv.ptr rfl rfl rfl) (aj rfl (Cv.ptr rfl rfl rfl) aG))) (fun hs=>?_);refine bu rfl rfl rfl rfl (aw ?_) (bu rfl rfl rfl rfl (aw (CvL.clo hs bJ)) aD);show CvL _ _ _ _ ([.arr (pE d.X),.arr (pE d.Y),.arr (pE d.W),i64 k,.emp,.emp]++(qC 0++[bln false]));rw[qC0];exact(af (ah hs (ao _)) (af (ah hs (ao _)) (af (ah hs (ao _)) (af (ah hs (ag _)) (af (ah hs aN) (af (ah hs aN) (af (Cv.emp _) (af (ah hs (ag _)) (af (Cv.emp _) (af (ah hs (ag _)) ay))))))))))
 refine ae (AWp.regF (fr2:=[(38,.lptr 0 0 0),(39,i64 n),(7,.lptr 3 0 0),(10,.lptr 0 0 0)]) (hp2:=seH d k none ⟨[],0,false⟩++[(3,some ⟨42,3,[zC]⟩)]) (nx2:=4) (k:=3) (hpc:=seH d k none ⟨[],0,false⟩) (hpd:=seH d k (some []) ⟨B,E,true⟩) (hp3:=seH d k (some []) ⟨B,E,true⟩++[(3,some ⟨42,3,[zC]⟩)]) (fr3:=[(7,.lptr 3 0 0),(10,.lptr 0 0 0)]) 2 rfl rfl rfl rfl rfl ?_ (fun d h=>by cases h;rfl) rfl rfl hXs (by decide) (Nat.le_refl _) ?_ ?_ (rc _ _ _ _) (se_top0 _ _) (se_boxG _ _ _ _) (se_mixG _ _ _ _ _ _) (rc _ _ _ _) rfl rfl ?_ ?_);refine o_0 (.move rfl) ?_;refine o_0 (.move rfl) ?_;refine aq ?_;refine SEntT.to [] rfl rfl rfl (ShrL.cons rfl rfl rfl rfl rfl ⟨trivial,⟨trivial,ShrL.cons rfl rfl rfl rfl rfl ShrL.nil⟩⟩) (fun hs=>aj rfl (Cv.ptr rfl rfl rfl) (aj rfl (ah hs (ag _)) (aj rfl (Cv.ptr rfl rfl rfl) (aj rfl (Cv.ptr rfl rfl rfl) aG)))) (fun hs=>?_);exact bu rfl rfl rfl rfl (aw (af (ah hs (ao _)) (af (ah hs (ao _)) (af (ah hs (ao _)) (af (ah hs (ag _)) (af (ah hs aN) (af (ah hs aN) (CvL.clo hs (gH _))))))))) ⟨trivial,⟨trivial,bu rfl rfl rfl rfl (aw (CvL.clo hs bJ)) aD⟩⟩;intro x hx;simp only[List.append_nil,List.mem_cons,List.not_mem_nil,or_false] at hx;rcases hx with rfl|rfl
 exact .ptr ⟨by decide,rfl⟩;exact .clo (ag _);intro i hi
 match i,hi with
 |0,_=>rfl
 |1,_=>rfl
 |2,_=>rfl
 intro t x hx;have hm:=look_mem' hx;simp only[List.mem_cons,Prod.mk.injEq,List.not_mem_nil,or_false] at hm;rcases hm with⟨rfl,rfl⟩|⟨rfl,rfl⟩
 exact⟨rfl,.ptr (.inr (Nat.le_refl _))⟩;exact⟨rfl,.ptr (.inl rfl)⟩;refine aq ?_;refine s_r 5 ?_;refine a_4 ?_;refine o_1 (.callE2 rfl rfl rfl rfl rfl rfl (hrv)) ?_;refine aq ?_;refine ae (r_d hmix 12 ?_);refine a_4 ?_;refine o_1 (.callS1 rfl rfl rfl (.shut rfl d_n (.nil)) rfl (htr2)) ?_;refine a_7 ?_;refine aq (n_k ?_);refine AWp.ent (st':=⟨[(6,.arr (pE (av B.reverse))),(7,.lptr 3 0 0),(8,i64 0)],[(3,some ⟨42,3,[qC E]⟩)],4,55⟩) ?_ ?_;have:=aU E;exact s_f [];refine am ⟨rfl,?_⟩;refine Fin.many ⟨_,_,rfl,rfl,⟨_,_,rfl,⟨_,_,_,_,_,rfl,rfl,rfl,.inl ⟨TG.h,_,TS.h,nle rfl,rfl⟩⟩,⟨_,_,rfl,rfl,rfl⟩⟩⟩ (nle rfl) ?_;exact af (ah aE (ao _)) (af (ah aE (aM _)) (af (ah aE (ag _)) ay))
end
end Go.Proofs.YtjgokhkahkmpbaaGreatDoor
namespace Go.Proofs.YtjgokhkahkmpbaaGreatDoor
open Go.Shelf


end Go.Proofs.YtjgokhkahkmpbaaGreatDoor
namespace Go.Proofs.YtjgokhkahkmpbaaGreatDoor
open Go.Abs Go.RowKit

end Go.Proofs.YtjgokhkahkmpbaaGreatDoor
namespace Go.Proofs.YtjgokhkahkmpbaaGreatDoor
open Go.Abs
set_option maxRecDepth 20000


def zL:Ln→AState
 |l=>⟨[(0,.arr (iE l))],[],1,15⟩
theorem iO(l:Ln):zL l=⟨[(0,.arr (iE l))],[],1,15⟩:=rfl
theorem ig(l:Ln)(hl:l.length≤281474976710656):FS 173 [.arr (iE l)] (.arr (iE (fy l))):=by
 refine f_c Tryz.func173 ?_;refine r_z 1 ?_;refine aZ zL (fun m=>m=fy l) ?_ ?_;refine ak (aC zL (fun m=>m.length) (fun m=>m.length≤281474976710656∧fy m=fy l) l ⟨hl,rfl⟩ ?_ ?_);simp only[iO];exact s_e [];rintro m ⟨hm,he⟩;rw[iO];cases m with
 |nil=>
  refine ae (s_r 9 ?_);refine a_4 ?_;refine n_g rfl d_f ?_;refine n_g rfl d_f ?_;refine n_g rfl d_f ?_;refine n_g rfl d_f ?_;refine o_0 (.pickF rfl d_f rfl) ?_;refine aq ?_;refine cF ?_;refine aB ⟨[],by simpa[fy] using he,?_⟩;simp only[iO];exact s_e []
 |cons d m=>
  have hd:(iE (d::m))[(0:Int).toNat]?=some [i64 d]:=rfl;refine ae (s_r 9 ?_);refine a_4 ?_;refine y_g rfl (by simp) (.move rfl) ?_
  first|refine y_g rfl (by simp) (.index_l rfl rfl (by omega) (by omega) te_45.h) ?_|refine y_g rfl (by simp) (.index_a rfl rfl (by omega) hd rfl te_45.h) ?_
  first|refine y_g rfl (by simp) (.load_l1 rfl rfl hd TG.h rfl) ?_|refine y_g rfl (by simp) (.load_a1 rfl hd TG.h rfl) ?_
  refine y_g rfl (by simp) (.bin rfl rfl aV) ?_;refine o_0 (.pickT rfl (by simp) rfl) ?_;refine aq ?_;refine au rfl (fun h=>?_) (fun h=>?_);have h0:d=0:=by simpa using h
  refine an ?_;subst h0;refine ak (r_m 3 ?_);refine a_1 ?_;refine o_0 (.sa_l rfl rfl rfl (by simp) te_45.h (kH _)) ?_;refine a_z ?_;refine⟨m,by simp,⟨by simp at hm;omega,by simpa[fy] using he⟩,?_⟩;simp only[iO];exact s_e [];have h0:d≠0:=by simpa using h
  refine aB ⟨d::m,by rw[←he];simp[fy,h0],?_⟩;simp only[iO];exact s_e []
 rintro m rfl;rw[iO];refine r_z 2 ?_;exact am (t_e (ez _))
theorem ow(s:Int)(l:Ln)(z:Int)(hl:l.length≤281474976710656)(hd:∀d∈l,d< UB)(hz:hv l=z.natAbs)(hs:z≠0→s=sgZ z):FS 116 [i64 s,.arr (iE l)] (.agg (zZ z)):=by
 refine f_c Tryz.func116 ?_;refine r_z 1 ?_;refine r_c 3 (ig l hl) ?_;refine a_z ?_;refine ae (r_z 3 ?_);refine au rfl (fun h=>?_) (fun h=>?_)
 have h0:fy l=[]:=by
  have:(fy l).length=0:=by simpa using h
  exact List.length_eq_zero_iff.1 this
 have hz0:z=0:=by have:=(rQ hd).1 h0;omega
 subst hz0;refine r_z 2 ?_;refine am (Fin.cell rfl rfl rfl TG.h TS.h (nle rfl) ?_);rw[zZ_zero];exact Cv.agg (af (ah aE (ag _)) (af (Cv.emp _) ay));have h0:fy l≠[]:=fun e=>by rw[e] at h;simp at h
 have hz0:z≠0:=by
  intro e;subst e;exact h0 ((rQ hd).2 hz)
 refine an (r_z 4 ?_);refine am (dG rfl rfl rfl TG.h TS.h (nle rfl) ?_ ?_);show AV.agg [i64 s,.arr (iE (fy l))]=_;unfold zZ;rw[hs hz0,fm hd,hz];exact eb _
theorem zZ_neg(z:Int):zZ (-z)=[i64 (-sgZ z),.arr (iE (zd z.natAbs))]:=by
 unfold zZ;rw[Int.natAbs_neg];congr 2;unfold sgZ;split <;> split <;>(try split)<;>(try split)<;> omega
theorem fo(z:Int):sgZ z= -1∧z< 0∨sgZ z=0∧z=0∨sgZ z=1∧0< z:=by
 unfold sgZ;split;right;left;exact⟨rfl,by assumption⟩;split;left;exact⟨rfl,by assumption⟩;right;right;exact⟨rfl,by omega⟩
theorem Cr(z:Int):FS 121 [.agg (zZ z)] (.agg (zZ (-z))):=by
 have hs:=fo z;have hc:=eb (-z);rw[zZ_neg] at hc⊢;refine f_c Tryz.func121 ?_;refine r_z 2 ?_;refine r_z 7 ?_;exact am (c_e (hc))
theorem tf(l:Ln)(i:Nat)(hl:l.length≤281474976710656):FS 227 [.arr (iE l),i64 i] (i64 (l.reverse[i]?.getD 0:Nat)):=by
 refine f_c Tryz.func227 ?_;refine r_z 1 ?_;refine ae (r_z 4 ?_);refine au rfl (fun h=>?_) (fun h=>?_);have hi:l.length≤i:=by simpa using h
 refine r_z 1 ?_;refine am (aR rfl ?_ (ag _));rw[List.getElem?_eq_none (by simpa using hi)];rfl;have hi:i< l.length:=by simp at h;omega
 refine an ?_;obtain⟨d,hd⟩:∃d,l[l.length- 1- i]?=some d:=⟨_,List.getElem?_eq_getElem (by omega)⟩;have hd':(iE l)[((l.length:Int)- 1- i).toNat]?=some [i64 d]:=by rw[show((l.length:Int)- 1- i).toNat=l.length- 1- i by omega];exact jE hd
 refine s_r 9 ?_;refine a_6 ?_;refine i_x hd' ?_;refine l_1 hd' ?_;refine a_z ?_;refine am (aR rfl ?_ (ag _));rw[List.getElem?_reverse hi,hd];rfl
theorem AK(a b:Ln):FS 226 [.arr (iE a),.arr (iE b)] (i64 (max a.length b.length:Nat)):=by
 refine f_c Tryz.func226 ?_;refine r_z 1 ?_;refine ae (r_z 5 ?_);refine au rfl (fun h=>?_) (fun h=>?_);refine r_z 3 ?_;refine am (aR rfl ?_ (ag _));have:b.length< a.length:=by simpa using h
 simp[i64];omega;refine an (r_z 3 ?_);refine am (aR rfl ?_ (ag _));have:¬b.length< a.length:=by simpa using h
 simp[i64];omega
end Go.Proofs.YtjgokhkahkmpbaaGreatDoor
