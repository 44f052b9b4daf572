/- Part Y32 of the proof. -/
import Derived.Test.YtjgokhkahkmpbaaGreatDoorY31
set_option linter.all false
namespace Go.Proofs.YtjgokhkahkmpbaaGreatDoor
open Go.Abs
set_option maxRecDepth 20000
set_option maxHeartbeats 8000000
structure SeS where
 best:Lq
 err:Rat
 got:Bool
def seB(s:SeS):Option Lq:=cond s.got (Option.some s.best) none
def GB(l:Lq)(e:Rat)(s:SeS):Prop:=smL l/\l.length<=1000/\l≠[]/\sm e/\sm s.err/\smL s.best/\s.best.length<=1000
instance (l:Lq) (e:Rat) (s:SeS):Decidable (GB l e s):=inferInstanceAs (Decidable (_/\_/\_/\_/\_/\_/\_))
def GW(f:Nat)(d:Dt)(l:Lq)(s:SeS):Option SeS:=match bdM f d 0 with
 |none=>none
 |some e=>if GB l e s then some (if s.got=false\/e< s.err\/e=s.err/\yl l s.best< 0 then⟨l,e,true⟩ else s) else none
def goM(bd:Dt->Option Rat)(tr:Dt->Lq->SeS->Option SeS)(d:Dt)(n:Nat)(l:Lq)(st:Rat):Nat->Rat->SeS->Option SeS
 |0,_,_=>none
 |f+1,c,s=>if okLs d c n then
   (match (if s.got=true then(match bd (lsD d c n) with|none=>none|some b=>if sm b/\sm s.err then some (decide (s.err< b)) else none) else some false) with
   |none=>none
   |some true=>some s
   |some false=>match tr (lsD d c n) (l++[c]) s with|none=>none|some s1=>goM bd tr d n l st f (c+st) s1) else none
def Ak(p:Lq)(m:Nat):Rat:=if db p=(m:Int) then bu p else 0
def oX(f kk:Nat):Nat->Dt->Lq->SeS->Option SeS
 |0,d,l,s=>GW f d l s
 |m+1,d,l,s=>match vx f d m with
  |none=>none
  |some r=>if okOw (Ak r.1 m) kk true f/\okOw (Ak r.1 m) kk false f/\r.1.length<=1000/\l.length<=100/\m<=12 then
     (match goM (λd'=>bdM f d' m) (oX f kk m) d m l (owS kk true) f (owA (Ak r.1 m) kk true) s with
     |none=>none
     |some s1=>goM (λd'=>bdM f d' m) (oX f kk m) d m l (owS kk false) f (owA (Ak r.1 m) kk false) s1) else none
abbrev seC(d:Dt)(k:Int)(nv:Option Lq)(s:SeS):La:=[.arr (pE d.X),.arr (pE d.Y),.arr (pE d.W),i64 k,F6 1 nv,F6 2 (seB s)]++(qC s.err++[bln s.got])
def seH(d:Dt)(k:Int)(nv:Option Lq)(s:SeS):Hp:=[(0,some ⟨140,10,[seC d k nv s]⟩),(1,pk 42 nv),(2,pk 42 (seB s))]
theorem HR{r:Ren}{hp hp':Hq}(hs:Shr r hp hp')(d:Dt)(k:Int)(nv:Option Lq)(s:SeS)(h1:Nat.blt 1 r.n=true)(h2:Nat.blt 2 r.n=true)(e1:r.s 1=1)(e2:r.s 2=2)(g1:hp' 1=pk 42 nv)(g2:hp' 2=pk 42 (seB s)):CvLL r hp hp' [seC d k nv s] [seC d k nv s]:=
 ay (af (ah hs (aq _)) (af (ah hs (aq _)) (af (ah hs (aq _)) (af (ah hs (ag _)) (af (Cv.row hs h1 e1 g1) (af (Cv.row hs h2 e2 g2) (CvL.clo hs (show∀c∈qC s.err++[bln s.got],Closed c from cL (bo _) (ae (ag _) ai)))))))))
theorem qF(V:Lc)(n:Nat)(h0:1<=n)(hn:n<=1000)(hl:V.length=n)(ho:V.all (·.all AV.one)=true)(hv:∀e∈V,e.length=3/\∀c∈e,∃y,c= .v y):OSpec Tryz.prog 77 [.arr V] 42 3 V:=by
 have hcl:∀e∈V,∀c∈e,Closed c:=λe he=>E9 (hv e he).2
 have hne:V≠[]:=by
  intro e;rw[e] at hl;simp at hl;omega
 have hlen:∀e∈V,e.length=3:=λe he=>(hv e he).1;refine OSpec.enter Tryz.func77 rfl κ rfl rfl rfl ?_ ?_ rfl ?_;exact ae (aU hcl) ai;exact hcl;refine r_z 1 ?_;refine ac (s_r 2 ?_);refine a_1 ?_
 first|refine av (.nilq_v rfl rfl te_30.h) rfl rfl ?_|refine av (.nilq_arr rfl (hne) rfl te_30.h) rfl rfl ?_
 refine ao ?_;refine cF ?_;refine am (s_r 4 ?_);refine a_2 ?_;refine o_2 (.append_l rfl rfl rfl te_30.h rfl rfl rfl rfl rfl (by first|rfl|simp) rfl ho rfl (.arr hlen) TZ.h rfl TB.h χ (by simp[maxLen];omega)) ?_;refine a_z ?_;exact an (FinO.tmp rfl rfl rfl ψ)
theorem xs_leaf(f:Nat)(k:Int)(d:Dt)(l:Lq)(s s':SeS)(hM:GW f d l s=some s'):
    XSpec Tryz.prog 89 [.lptr 0 0 0,i64 (((0:Nat):Int)- 1)] (seH d k (some l) s) 3 (.tup []) (seH d k (some l) s') 3:=by
 unfold GW at hM;cases hb:bdM f d 0 with
 |none=>rw[hb] at hM;cases hM
 |some e=>
 rw[hb] at hM;simp only at hM;split at hM
 case isFalse=>cases hM
 case isTrue ok=>
 obtain⟨o1,o2,o3,o4,o5,o6,o7⟩:=ok;have hbd:=qX f d 0 e δ hb;have hcm:=ej e s.err o4 o5;unfold seH;refine XSpec.enter0 Tryz.func89 rfl κ rfl rfl rfl rfl ?_;have hon:=cy l;have hll:(pE l).length=l.length:=by simp[pE]
 obtain⟨B0,E0,G0⟩:=s;simp only at o5 o6 o7 hcm hM;have hcp:=Cg l B0 o1 o6 o2 o7
 have hl1:1<=l.length:=by
  cases l with
  |nil=>exact absurd rfl o3
  |cons a l=>simp
 refine r_z 2 ?_;refine ac (q_z 2 ?_);refine cT (ac (r_d hmix 8 ?_));refine c_s (hbd) ?_;refine a_2 ?_;refine ao (n_k ?_);refine ac (ac (r_d hmix 7 ?_));refine c_s (hcm) ?_;refine a_1 ?_;refine ao (n_k ?_);cases G0 with
 |false=>
  rw[if_pos (.inl rfl)] at hM;cases hM;refine ac (r_d hmix 25 ?_);refine a_4 ?_;refine o_0 (.un (r:= .bool true) rfl iN) ?_;refine d_8 ?_;refine d_8 ?_;refine d_4 ?_;refine ao (n_k ?_);refine cT (r_d hmix 18 ?_);refine a_7 ?_;refine o_1 (.callOL rfl rfl rfl rfl rfl hll δ (aJ l) hon (λV h1 h2 h3=>qF V l.length hl1 o2 h1 h2 h3)) ?_;refine a_8 ?_;refine a_2 ?_;refine ao (n_k ?_);refine an (FinX0.of ?_);refine dn [(2,58)] rfl rfl rfl (ShrL.cons rfl rfl rfl rfl rfl (ShrL.same rfl rfl (ShrL.same rfl rfl ShrL.nil))) (λhs=>aF) (λhs=>?_);refine bw rfl rfl rfl rfl ?_ (CvH.same hs rfl rfl cf (CvH.same hs rfl rfl cf aD));exact ay (af (ah hs (aq _)) (af (ah hs (aq _)) (af (ah hs (aq _)) (af (ah hs (ag _)) (af (Cv.sl rfl rfl rfl) (af (Cv.sl rfl rfl rfl) (CvL.clo hs (show∀c∈qC e++[bln true],Closed c from cL (bo _) (ae (ag _) ai)))))))))
 |true=>
  by_cases c1:e< E0;rw[if_pos (.inr (.inl c1))] at hM;cases hM;refine ac (r_d hmix 25 ?_);refine a_4 ?_;refine o_0 (.un (r:= .bool false) rfl iN) ?_;refine d_2 ?_;refine ap rfl rfl rfl (.bin rfl rfl (vT aZ (decide_eq_true (cq_lt.2 c1)))) rfl rfl ?_;refine d_8 ?_;refine d_8 ?_;refine m_1 ?_;refine ao (n_k ?_);refine cT (r_d hmix 18 ?_);refine a_7 ?_;refine o_1 (.callOL rfl rfl rfl rfl rfl hll δ (aJ l) hon (λV h1 h2 h3=>qF V l.length hl1 o2 h1 h2 h3)) ?_;refine a_8 ?_;refine a_2 ?_;refine ao (n_k ?_);refine an (FinX0.of ?_);refine dn [(2,58)] rfl rfl rfl (ShrL.cons rfl rfl rfl rfl rfl (ShrL.same rfl rfl (ShrL.same rfl rfl ShrL.nil))) (λhs=>aF) (λhs=>?_);refine bw rfl rfl rfl rfl ?_ (CvH.same hs rfl rfl cf (CvH.same hs rfl rfl cf aD));exact ay (af (ah hs (aq _)) (af (ah hs (aq _)) (af (ah hs (aq _)) (af (ah hs (ag _)) (af (Cv.sl rfl rfl rfl) (af (Cv.sl rfl rfl rfl) (CvL.clo hs (show∀c∈qC e++[bln true],Closed c from cL (bo _) (ae (ag _) ai)))))))));by_cases c2:e=E0;by_cases c3:yl l B0< 0;rw[if_pos (.inr (.inr ⟨c2,c3⟩))] at hM;cases hM;refine ac (r_d hmix 25 ?_);refine a_4 ?_;refine o_0 (.un (r:= .bool false) rfl iN) ?_;refine d_2 ?_;refine ap rfl rfl rfl (.bin rfl rfl (vF aZ (decide_eq_false (mt cq_lt.1 c1)))) rfl rfl ?_;refine d_3 ?_;refine ap rfl rfl rfl (.bin rfl rfl (vT aM (eqI (cq_eq.2 c2)))) rfl rfl ?_;refine d_8 ?_;refine m_1 ?_
  refine ap rfl rfl rfl (.callV (rr:=⟨0,λi=>i⟩) (rd:=[1,2]) rfl rfl rfl (λhp' h=>af (Cv.sealE aE (by unfold dw;rw[h 1 ψ];rfl) (λ_ _ h=>by cases h) rfl ψ (aJ l)) (af (Cv.sealE aE (by unfold dw;rw[h 2 ψ];rfl) (λ_ _ h=>by cases h) rfl ψ (aJ B0)) (af (ah aE (aY ai ai)) ax))) hcp) rfl rfl ?_;refine d_3 ?_;refine ao (n_k ?_);refine cT (r_d hmix 18 ?_);refine a_7 ?_;refine o_1 (.callOL rfl rfl rfl rfl rfl hll δ (aJ l) hon (λV h1 h2 h3=>qF V l.length hl1 o2 h1 h2 h3)) ?_;refine a_8 ?_;refine a_2 ?_;refine ao (n_k ?_);refine an (FinX0.of ?_);refine dn [(2,58)] rfl rfl rfl (ShrL.cons rfl rfl rfl rfl rfl (ShrL.same rfl rfl (ShrL.same rfl rfl ShrL.nil))) (λhs=>aF) (λhs=>?_);refine bw rfl rfl rfl rfl ?_ (CvH.same hs rfl rfl cf (CvH.same hs rfl rfl cf aD));exact ay (af (ah hs (aq _)) (af (ah hs (aq _)) (af (ah hs (aq _)) (af (ah hs (ag _)) (af (Cv.sl rfl rfl rfl) (af (Cv.sl rfl rfl rfl) (CvL.clo hs (show∀c∈qC e++[bln true],Closed c from cL (bo _) (ae (ag _) ai)))))))));rw[if_neg (λh=>by rcases h with h|h|h;cases h;exact c1 h;exact c3 h.2)] at hM;cases hM;refine ac (r_d hmix 25 ?_);refine a_4 ?_;refine o_0 (.un (r:= .bool false) rfl iN) ?_;refine d_2 ?_;refine ap rfl rfl rfl (.bin rfl rfl (vF aZ (decide_eq_false (mt cq_lt.1 c1)))) rfl rfl ?_;refine d_3 ?_;refine ap rfl rfl rfl (.bin rfl rfl (vT aM (eqI (cq_eq.2 c2)))) rfl rfl ?_;refine d_8 ?_;refine m_1 ?_
  refine ap rfl rfl rfl (.callV (rr:=⟨0,λi=>i⟩) (rd:=[1,2]) rfl rfl rfl (λhp' h=>af (Cv.sealE aE (by unfold dw;rw[h 1 ψ];rfl) (λ_ _ h=>by cases h) rfl ψ (aJ l)) (af (Cv.sealE aE (by unfold dw;rw[h 2 ψ];rfl) (λ_ _ h=>by cases h) rfl ψ (aJ B0)) (af (ah aE (aY ai ai)) ax))) hcp) rfl rfl ?_;refine d_3 ?_;refine ao (n_k ?_);refine cF (am (an (FinX0.of ?_)));refine dn [] rfl rfl rfl (ShrL.same rfl rfl (ShrL.same rfl rfl (ShrL.same rfl rfl ShrL.nil))) (λhs=>aF) (λhs=>?_);exact bw rfl rfl rfl rfl (HR hs d k (some l) ⟨B0,E0,true⟩ rfl rfl rfl rfl rfl rfl) (CvH.same hs rfl rfl cf (CvH.same hs rfl rfl cf aD));rw[if_neg (λh=>by rcases h with h|h|h;cases h;exact c1 h;exact c2 h.1)] at hM;cases hM;refine ac (r_d hmix 25 ?_);refine a_4 ?_;refine o_0 (.un (r:= .bool false) rfl iN) ?_;refine d_2 ?_;refine ap rfl rfl rfl (.bin rfl rfl (vF aZ (decide_eq_false (mt cq_lt.1 c1)))) rfl rfl ?_;refine d_3 ?_;refine ap rfl rfl rfl (.bin rfl rfl (vF aM (neI (mt cq_eq.1 c2)))) rfl rfl ?_;refine d_8 ?_;refine d_5 ?_;refine ao (n_k ?_);refine cF (am (an (FinX0.of ?_)));refine dn [] rfl rfl rfl (ShrL.same rfl rfl (ShrL.same rfl rfl (ShrL.same rfl rfl ShrL.nil))) (λhs=>aF) (λhs=>?_);exact bw rfl rfl rfl rfl (HR hs d k (some l) ⟨B0,E0,true⟩ rfl rfl rfl rfl rfl rfl) (CvH.same hs rfl rfl cf (CvH.same hs rfl rfl cf aD))
def seX(d:Dt)(k:Int)(nv:Option Lq)(s:SeS):Hp:=[(0,some ⟨140,10,[seC d k nv s]⟩),(1,pk 42 nv),(2,pk 42 (seB s)),(3,some ⟨138,1,[[.lptr 0 0 0]]⟩)]
theorem SEnt.thenT{a b c:AState}(h:SEnt a b)(h':SEntT b c):SEntT a c:=λM0 w0 x w hr=>h' M0 w0 x w (h M0 w0 x w hr)
def gdI(d:Dt)(m:Nat)(k:Int)(free:Rat)(r:Nat)(up:Bool):Nat×Dt×Option Lq×SeS->AState
 |(j,dd,nv,s)=>⟨[(2,.lptr 3 0 0),(3,bS1 m),(6,bQ free),(8,bD d),(83,.arr [[bln true],[bln false]]),(84,i64 2),(85,i64 r),(95,.clos 194 [] [bQ free,bS1 k,bB1 up])],seX dd k nv s,4,156⟩
def gdX(d:Dt)(m:Nat)(k:Int)(free:Rat)(r:Nat)(l:Lq)(sE:SeS):Dt->AState
 |dd=>⟨[(2,.lptr 3 0 0),(3,bS1 m),(6,bQ free),(8,bD d),(83,.arr [[bln true],[bln false]]),(84,i64 2),(85,i64 r)],seX dd k (some l) sE,4,156⟩
def gdS(d:Dt)(m:Nat)(k:Int)(free:Rat):Nat×Dt×Option Lq×SeS->AState
 |(r,dd,nv,s)=>⟨[(2,.lptr 3 0 0),(3,bS1 m),(6,bQ free),(8,bD d),(83,.arr [[bln true],[bln false]]),(84,i64 2),(85,i64 r)],seX dd k nv s,4,156⟩
theorem tA{r:Ren}{d:Dt}{k:Int}{nv:Option Lq}{s:SeS}{hp:Hq}(n0:Nat.blt 0 r.n=true)(n1:Nat.blt 1 r.n=true)(n2:Nat.blt 2 r.n=true)(n3:Nat.blt 3 r.n=true){cs:La}(h0:hp (r.s 0)=some ⟨140,10,[cs]⟩)(h1:hp (r.s 1)=pk 42 nv)(h2:hp (r.s 2)=pk 42 (seB s))(h3:hp (r.s 3)=some ⟨138,1,[[.lptr 0 0 0]]⟩):ShrL r hp (seX d k nv s):=
 ShrL.cons n0 h0 rfl rfl rfl (ShrL.same n1 h1 (ShrL.same n2 h2 (ShrL.cons n3 h3 rfl rfl rfl ShrL.nil)))
theorem uO{r:Ren}{d:Dt}{k:Int}{nv:Option Lq}{s:SeS}{hp hp':Hq}(hs:Shr r hp hp')(n0:Nat.blt 0 r.n=true)(n1:Nat.blt 1 r.n=true)(n2:Nat.blt 2 r.n=true)(n3:Nat.blt 3 r.n=true){cs:La}(h0:hp (r.s 0)=some ⟨140,10,[cs]⟩)(h1:hp (r.s 1)=pk 42 nv)(h2:hp (r.s 2)=pk 42 (seB s))(h3:hp (r.s 3)=some ⟨138,1,[[.lptr 0 0 0]]⟩)(e0:r.s 0=0)(g0:(hp' 0).isSome=true)(hc:CvL r hp hp' cs (seC d k nv s)):CvH r hp hp' (seX d k nv s):=
 bw n0 h0 rfl rfl (ay hc) (CvH.same hs n1 h1 cf (CvH.same hs n2 h2 cf (bw n3 h3 rfl rfl (ay (af (Cv.ptr n0 e0 g0) ax)) aD)))
theorem gU(s:SeS):∀c∈qC s.err++[bln s.got],Closed c:=cL (bo _) (ae (ag _) ai)
theorem sw(d:Dt)(k:Int)(nv:Option Lq)(s:SeS):∀i,3<=i->au (seH d k nv s) i=none:=λi hi=>by
 unfold seH;rw[bh (show 0≠i by omega),bh (show 1≠i by omega),bh (show 2≠i by omega)];rfl
theorem se_top(d:Dt)(k:Int)(l:Lq)(s:SeS):∀i B,au (seH d k (some l) s) i=some B->B.sz≠0/\∀e∈B.es,∀c∈e,Top (λj=>j< 3/\(au (seH d k (some l) s) j).isSome=true) c:=λi B h=>by
 have hm:=da h;unfold seH at hm;simp only[List.mem_cons,Prod.mk.injEq,List.not_mem_nil,or_false] at hm;rcases hm with⟨rfl,hB⟩|⟨rfl,hB⟩|⟨rfl,hB⟩
 cases hB;refine⟨ψ,λe he c hc=>?_⟩;rw[List.mem_singleton.1 he] at hc;rcases List.mem_append.1 hc with hc|hc
 simp only[List.mem_cons,List.not_mem_nil,or_false] at hc;rcases hc with rfl|rfl|rfl|rfl|rfl|rfl
 exact .clo (aq _);exact .clo (aq _);exact .clo (aq _);exact .clo (ag _);exact .sl ⟨δ,rfl⟩
 exact Top.row λhh=>⟨δ,by
  show(pk 42 (seB s)).isSome=true;cases hb:seB s with
  |none=>rw[hb] at hh;cases hh
  |some x=>rfl⟩
 exact .clo (gU s c hc);exact⟨by rw[Dg B hB.symm];decide,λe he c hc=> .clo (cf B hB.symm e he c hc)⟩;exact⟨by rw[Dg B hB.symm];decide,λe he c hc=> .clo (cf B hB.symm e he c hc)⟩
theorem se_box(d:Dt)(k:Int)(nv:Option Lq)(s:SeS):∀i B,3<=i->au (seX d k nv s) i=some B->B.sz≠0/\∀e∈B.es,∀c∈e,Top (λj=>j=0\/3<=j) c:=λi B hi h=>by
 have hm:=da h;unfold seX at hm;simp only[List.mem_cons,Prod.mk.injEq,List.not_mem_nil,or_false] at hm;rcases hm with⟨rfl,_⟩|⟨rfl,_⟩|⟨rfl,_⟩|⟨rfl,hB⟩
 omega;omega;omega;cases hB;refine⟨ψ,λe he c hc=>?_⟩;rw[List.mem_singleton.1 he] at hc;rw[List.mem_singleton.1 hc];exact .ptr (.inl rfl)
theorem se_mix(d:Dt)(k:Int)(nv:Option Lq)(s s':SeS):∀i,au (seX d k nv s') i=if i< 3 then au (seH d k nv s') i else au (seX d k nv s) i:=λi=>by
 match i with
 |0=>rfl
 |1=>rfl
 |2=>rfl
 |3=>rfl
 |i+4=>
  rw[if_neg ω];unfold seX;rw[bh (show 0≠i+4 by omega),bh (show 1≠i+4 by omega),bh (show 2≠i+4 by omega),bh (show 3≠i+4 by omega),bh (show 0≠i+4 by omega),bh (show 1≠i+4 by omega),bh (show 2≠i+4 by omega),bh (show 3≠i+4 by omega)]
theorem C0(l:Lq)(c:Rat):(pE (l++[c])).take l.length=pE l:=by rw[li,List.take_left]
theorem Fp(f:Nat)(k:Int):∀(n1:Nat) (d:Dt) (nv:Option Lq) (s s':SeS),oX f (wi k 256) n1 d (nv.getD []) s=some s'->(nv=none->s.got=false/\n1≠0)->
    XSpec Tryz.prog 89 [.lptr 0 0 0,i64 ((n1:Int)- 1)] (seH d k nv s) 3 (.tup []) (seH d k (some (nv.getD [])) s') 3
 |0,d,nv,s,s',h,hn=>by
  cases nv with
  |none=>exact absurd rfl (hn rfl).2
  |some l=>exact xs_leaf f k d l s s' h
 |m+1,d,nv,s,s',h,hn=>by
  have IH:=Fp f k m;obtain⟨l,hl⟩:∃l,l=nv.getD []:=⟨_,rfl⟩;rw[<-hl] at h⊢;obtain⟨kk,hkk⟩:∃kk,kk=wi k 256:=⟨_,rfl⟩;rw[<-hkk] at h IH;rw[oX] at h;cases hf:vx f d m with
  |none=>rw[hf] at h;cases h
  |some r=>
  rw[hf] at h;simp only at h;split at h
  case isFalse=>cases h
  case isTrue ok=>
  obtain⟨o1,o2,o3,o4,o5⟩:=ok;obtain⟨free,hfr⟩:∃free,free=Ak r.1 m:=⟨_,rfl⟩;rw[<-hfr] at o1 o2 h;cases hg1:goM (λd'=>bdM f d' m) (oX f kk m) d m l (owS kk true) f (owA free kk true) s with
  |none=>rw[hg1] at h;cases h
  |some s1=>
  rw[hg1] at h;simp only at h;have hfit:=B8 f d m r hf;have hdg:=cK r.1 ω;have hld:=lI r.1 ω;rw[show(((m+1:Nat):Int)- 1)=(m:Int) by omega];unfold seH;refine XSpec.enter0 Tryz.func89 rfl κ rfl rfl rfl rfl ?_;refine r_z 2 ?_;refine ac (q_z 2 ?_);refine cF (am (r_z 1 ?_));refine AWp.ent (st':=⟨[(2,.lptr 3 0 0),(3,bS1 m),(6,.lptr 4 0 0)],seX d k nv s++[(4,some ⟨42,3,[zC]⟩)],5,156⟩) ?_ ?_;refine dn [(3,2),(4,6)] rfl rfl rfl (ShrL.cons rfl rfl rfl rfl rfl (ShrL.same rfl rfl (ShrL.same rfl rfl (ShrL.cons rfl rfl rfl rfl rfl (ShrL.cons rfl rfl rfl rfl rfl ShrL.nil))))) (λhs=>aj rfl (Cv.ptr rfl rfl rfl) (aj rfl (Cv.boxp hs rfl (aP rfl) rfl (ae (ag _) ai)) (aj rfl (Cv.ptr rfl rfl rfl) aF))) (λhs=>?_);exact bw rfl rfl rfl rfl (ay (af (ah hs (aq _)) (af (ah hs (aq _)) (af (ah hs (aq _)) (af (ah hs (ag _)) (af (Cv.row hs rfl rfl rfl) (af (Cv.row hs rfl rfl rfl) (CvL.clo hs (gU _))))))))) (CvH.same hs rfl rfl cf (CvH.same hs rfl rfl cf (bw rfl rfl rfl rfl (ay (af (Cv.ptr rfl rfl rfl) ax)) (bw rfl rfl rfl rfl (ay (CvL.clo hs b7)) aD))));refine bi (λ_:Unit=>⟨[(2,.lptr 3 0 0),(3,bS1 m),(6,bQ free)],seX d k nv s,4,156⟩) (λ_=>True) ?_ ?_;refine ac (r_d hmix 8 ?_);refine c_s (hfit) ?_;refine a_2 ?_;refine ao (n_k ?_);by_cases hd:db r.1=(m:Int);have hfe:free=bu r.1:=by rw[hfr];exact if_pos hd
  refine ac (r_d hmix 4 ?_);refine c_s (hdg) ?_;refine a_1 ?_;refine o_0 (.bin rfl rfl (vT aM (eqI hd))) ?_;refine ao (n_k ?_);refine cT (r_m 3 ?_);refine c_s (hld) ?_;refine a_z ?_;refine⟨(),trivial,?_⟩;rw[hfe];refine dn [] rfl rfl rfl (tA rfl rfl rfl rfl rfl rfl rfl rfl) (λhs=>aj rfl (Cv.ptr rfl rfl rfl) (aj rfl (ah hs (b9 _)) (aj rfl (Cv.boxp hs rfl (aP rfl) rfl (bo _)) aF))) (λhs=>?_);exact uO hs rfl rfl rfl rfl rfl rfl rfl rfl rfl rfl (af (ah hs (aq _)) (af (ah hs (aq _)) (af (ah hs (aq _)) (af (ah hs (ag _)) (af (Cv.row hs rfl rfl rfl) (af (Cv.row hs rfl rfl rfl) (CvL.clo hs (gU _))))))));have hfe:free=0:=by rw[hfr];exact if_neg hd
  refine ac (r_d hmix 4 ?_);refine c_s (hdg) ?_;refine a_1 ?_;refine o_0 (.bin rfl rfl (vF aM (neI hd))) ?_;refine ao (n_k ?_);refine cF (am ⟨(),trivial,?_⟩);rw[hfe,show bQ 0= .aptr [[.arr [],bln false,.arr []]] 0 0 by unfold bQ;rw[qC0]];refine dn [] rfl rfl rfl (tA rfl rfl rfl rfl rfl rfl rfl rfl) (λhs=>aj rfl (Cv.ptr rfl rfl rfl) (aj rfl (ah hs (b9 _)) (aj rfl ?_ aF))) (λhs=>?_);refine Cv.sealp hs rfl (aP rfl) Nat.zero_lt_one ?_;exact ay (af (Cv.emp _) (af (ah hs (ag _)) (af (Cv.emp _) ax)));exact uO hs rfl rfl rfl rfl rfl rfl rfl rfl rfl rfl (af (ah hs (aq _)) (af (ah hs (aq _)) (af (ah hs (aq _)) (af (ah hs (ag _)) (af (Cv.row hs rfl rfl rfl) (af (Cv.row hs rfl rfl rfl) (CvL.clo hs (gU _))))))));rintro _ _;refine r_z 6 ?_;refine ac (r_z 3 ?_);refine AWp.ent (st':=gdS d m k free (0,d,nv,s)) ?_ ?_;rw[gdS.eq_1];refine dn [] rfl rfl rfl (tA rfl rfl rfl rfl rfl rfl rfl rfl) (λhs=>aj rfl (Cv.ptr rfl rfl rfl) (aj rfl (ah hs (b9 _)) (aj rfl (ah hs (aT _)) (aj rfl (Cv.boxp hs rfl (aP rfl) rfl (cX d)) (aj rfl (Cv.sealE hs rfl (aP rfl) rfl rfl ?_) (aj rfl (Cv.loE hs rfl (ag _)) (aj rfl (Cv.loE hs rfl (ag _)) aF))))))) (λhs=>?_);intro e he c hc;simp only[List.mem_cons,List.not_mem_nil,or_false] at he;rcases he with rfl|rfl <;>(rw[List.mem_singleton.1 hc];exact ag _)
  exact uO hs rfl rfl rfl rfl rfl rfl rfl rfl rfl rfl (af (ah hs (aq _)) (af (ah hs (aq _)) (af (ah hs (aq _)) (af (ah hs (ag _)) (af (Cv.row hs rfl rfl rfl) (af (Cv.row hs rfl rfl rfl) (CvL.clo hs (gU _))))))));refine aG (λdd:Dt=>⟨[(2,.lptr 3 0 0),(8,bD d)],seX dd k (some l) s',4,156⟩) (λ_=>True) ?_ ?_
  ·refine ak (aC (gdS d m k free) (λx=>2- x.1) (λx=>x.1=0/\x.2.2=(nv,s)\/x.1=1/\x.2.2=(some l,s1)\/x.1=2/\x.2.2=(some l,s')) (0,d,nv,s) (.inl ⟨rfl,rfl⟩) (SEnt.refl _) ?_)
   rintro⟨r,dd,nv',s0⟩ hinv;simp only at hinv;rw[gdS.eq_1];by_cases hr2:r< 2;rotate_left
   obtain⟨rfl,hns⟩:r=2/\(nv',s0)=(some l,s'):=by
    rcases hinv with⟨e,_⟩|⟨e,_⟩|h
    omega;omega;exact h
   cases hns;refine s_r 1 ?_;refine o_0 (.bin rfl rfl (vF aZ (rfl))) ?_;refine ao ?_;refine ac (cF (aB ⟨dd,trivial,?_⟩));refine dn [] rfl rfl rfl (tA rfl rfl rfl rfl rfl rfl rfl rfl) (λhs=>aj rfl (Cv.ptr rfl rfl rfl) (aj rfl (ah hs (b6 _)) aF)) (λhs=>?_);exact uO hs rfl rfl rfl rfl rfl rfl rfl rfl rfl rfl (af (ah hs (aq _)) (af (ah hs (aq _)) (af (ah hs (aq _)) (af (ah hs (ag _)) (af (Cv.row hs rfl rfl rfl) (af (Cv.row hs rfl rfl rfl) (CvL.clo hs (gU _))))))))
   obtain⟨up,sE,hget,hgo,hnx,hst⟩:∃(up:Bool) (sE:SeS),(∀e:Nat,e=r->([[bln true],[bln false]]:Lc)[e]?=some [bln up])/\goM (λd'=>bdM f d' m) (oX f kk m) d m l (owS kk up) f (owA free kk up) s0=some sE/\(r+1=1/\(some l,sE)=(some l,s1)\/r+1=2/\(some l,sE)=(some l,s'))/\nv'.getD []=l/\(nv'=none->s0.got=false):=by
    rcases hinv with⟨e,h2⟩|⟨e,h2⟩|⟨e,_⟩
    cases h2;exact⟨true,s1,λi hi=>by rw[hi,e];rfl,hg1,.inl ⟨ω,rfl⟩,hl.symm,λh=>(hn h).1⟩;cases h2;exact⟨false,s',λi hi=>by rw[hi,e];rfl,h,.inr ⟨ω,rfl⟩,rfl,λh=>by cases h⟩;omega
   have hgs:=BQ free k up f (by rw[<-hkk];cases up with|true=>exact o1|false=>exact o2);rw[<-hkk] at hgs;have hcl:∀c∈[bQ free,bS1 k,bB1 up],Closed c:=ae (aT _) (ae (b9 _) (ae (u9 _) ai));refine q_z 1 ?_;refine ac (cT (am (ac (ak (s_r 3 ?_)))))
   first|refine av (.index_l rfl rfl ω ω te_189.h) rfl rfl ?_|refine av (.index_a rfl rfl ω (hget _ ω) rfl te_189.h) rfl rfl ?_
   first|refine av (.load_l1 rfl rfl (hget _ ω) TG.h rfl) rfl rfl ?_|refine av (.load_a1 rfl (hget _ ω) TG.h rfl) rfl rfl ?_
   refine a_z ?_;refine ac (r_d hmix 7 ?_);refine c_s (BZ free k up) ?_;refine ao (n_k ?_);have hcc:Closed (.clos 194 [] [bQ free,bS1 k,bB1 up]):=aY ai hcl
   have hcb:Closed (.arr [[bln true],[bln false]]):=aU λe he c hc=>by
    simp only[List.mem_cons,List.not_mem_nil,or_false] at he;rcases he with rfl|rfl <;>(rw[List.mem_singleton.1 hc];exact ag _)
   refine ak (AWp.rangeFuncB (α:=Nat×Dt×Option Lq×SeS) (γ:=Dt) f (gdI d m k free r up) (λx=>x.1) (λx=>x.1<=f/\goM (λd'=>bdM f d' m) (oX f kk m) d m l (owS kk up) (f- x.1) (owV free kk up x.1) x.2.2.2=some sE/\x.2.2.1.getD []=l/\(x.2.2.1=none->x.2.2.2.got=false)) (gdX d m k free r l sE) (λe _=>e= .exit 2) (0,dd,nv',s0) rfl hgs rfl rfl ?_ (fun⟨_,_,_,_⟩=>⟨rfl,rfl⟩) (λ_=>rfl) ⟨Nat.zero_le _,hgo,hst⟩ rfl (λ_ h=>h.1) ?_ ?_ ?_ ?_ ?_);intro k xs hT;cases hT;rfl
   ·rw[gdI.eq_1]
    refine SEntT.to [] rfl rfl rfl (tA rfl rfl rfl rfl rfl rfl rfl rfl) (λhs=>aj rfl (Cv.ptr rfl rfl rfl) (aj rfl (ah hs (b9 _)) (aj rfl (ah hs (aT _)) (aj rfl (ah hs (b6 _)) (aj rfl (ah hs hcb) (aj rfl (ah hs (ag _)) (aj rfl (ah hs (ag _)) (aj rfl (ah hs hcc) aF)))))))) (λhs=>?_);exact uO hs rfl rfl rfl rfl rfl rfl rfl rfl rfl rfl (af (ah hs (aq _)) (af (ah hs (aq _)) (af (ah hs (aq _)) (af (ah hs (ag _)) (af (Cv.row hs rfl rfl rfl) (af (Cv.row hs rfl rfl rfl) (CvL.clo hs (gU _))))))))
   ·exact hcl
   ·rintro ll ⟨j,dd,nv,s⟩ aa ⟨hj,hgoj,hlj,hnj⟩ hT
    cases hT;simp only at hj hgoj hlj hnj
    obtain⟨q,hq⟩:∃q,f- j=q+1:=by
     cases e:f- j with
     |zero=>rw[e] at hgoj;cases hgoj
     |succ q=>exact⟨q,rfl⟩
    rw[hq,goM] at hgoj;obtain⟨c,hc⟩:∃c,c=owV free kk up j:=⟨_,rfl⟩;obtain⟨d',hd'⟩:∃d',d'=lsD d c m:=⟨_,rfl⟩;rw[<-hc,<-hd'] at hgoj;split at hgoj
    case isFalse=>cases hgoj
    case isTrue okl=>
    have hls:=Hs d c m okl;rw[<-hd'] at hls
    have cases2:(s.got=true/\∃b,bdM f d' m=some b/\sm b/\sm s.err/\s.err< b/\s=sE)\/((s.got=false\/s.got=true/\∃b,bdM f d' m=some b/\sm b/\sm s.err/\¬s.err< b)/\∃sN,oX f kk m d' (l++[c]) s=some sN/\goM (λd'=>bdM f d' m) (oX f kk m) d m l (owS kk up) q (c+owS kk up) sN=some sE):=by
     have go:∀(x:Option SeS),(match x with|none=>none|some s1=>goM (λd'=>bdM f d' m) (oX f kk m) d m l (owS kk up) q (c+owS kk up) s1)=some sE->∃sN,x=some sN/\goM (λd'=>bdM f d' m) (oX f kk m) d m l (owS kk up) q (c+owS kk up) sN=some sE:=λx hx=>by
      cases x with
      |none=>cases hx
      |some y=>exact⟨y,rfl,hx⟩
     cases hg:s.got with
     |false=>
      rw[hg,if_neg δ] at hgoj;exact .inr ⟨.inl rfl,go _ hgoj⟩
     |true=>
      rw[hg,if_pos rfl] at hgoj;cases hb:bdM f d' m with
      |none=>rw[hb] at hgoj;cases hgoj
      |some b=>
      rw[hb] at hgoj;simp only at hgoj;by_cases hsm:sm b/\sm s.err;rw[if_pos hsm] at hgoj;by_cases hlt:s.err< b;rw[decide_eq_true hlt] at hgoj;cases hgoj;exact .inl ⟨rfl,b,rfl,hsm.1,hsm.2,hlt,rfl⟩;rw[decide_eq_false hlt] at hgoj;exact .inr ⟨.inr ⟨rfl,b,rfl,hsm.1,hsm.2,hlt⟩,go _ hgoj⟩;rw[if_neg hsm] at hgoj;cases hgoj
    show AWp _ _ _ _ ⟨[(96,.agg (qC (owV free kk up j))),(2,.lptr 3 0 0),(3,bS1 m),(6,bQ free),(8,bD d),(83,.arr [[bln true],[bln false]]),(84,i64 2),(85,i64 r),(95,.clos 194 [] [bQ free,bS1 k,bB1 up]),(1002,.lptr 3 0 0),(1003,bS1 m),(1006,bQ free),(1008,bD d),(1083,.arr [[bln true],[bln false]]),(1084,i64 2),(1085,i64 r),(1095,.clos 194 [] [bQ free,bS1 k,bB1 up])],seX dd k nv s,4,156⟩;rw[<-hc];refine r_m 2 ?_;refine a_z ?_;refine ak (ac (r_d hmix 8 ?_));refine c_s (hls) ?_;refine a_3 ?_;refine ao (n_k ?_);rcases cases2 with⟨hg,b,hb,b1,b2,b3,rfl⟩|⟨hcont,sN,hsN,hgoN⟩
    ·have hbd:=qX f d' m b ω hb
     have hcm:=ej b s.err b1 b2;cases nv with
     |none=>rw[hnj rfl] at hg;cases hg
     |some lv=>
     obtain rfl:lv=l:=hlj;refine ac (ac (r_d hmix 19 ?_));refine a_5 ?_
     first|refine y_g rfl hg (.load_l1 rfl rfl rfl TG.h rfl) ?_|refine y_g rfl hg (.load_a1 rfl rfl TG.h rfl) ?_
     refine y_g rfl hg (.nilCheck rfl rfl) ?_
     first|refine y_g rfl hg (.fieldAddr_l rfl TF.h δ) ?_|refine y_g rfl hg (.fieldAddr_a rfl TF.h δ) ?_
     first|refine y_g rfl hg (.load_l rfl rfl rfl TG.h TS.h (nle rfl)) ?_|refine y_g rfl hg (.load_a rfl rfl TG.h TS.h (nle rfl)) ?_
     first|refine y_g rfl hg (.load_l1 rfl rfl rfl TG.h rfl) ?_|refine y_g rfl hg (.load_a1 rfl rfl TG.h rfl) ?_
     refine y_g rfl hg (.bin rfl rfl (iL ω)) ?_;refine y_g rfl hg (.call rfl rfl rfl (hbd)) ?_
     first|refine y_g rfl hg (.load_l1 rfl rfl rfl TG.h rfl) ?_|refine y_g rfl hg (.load_a1 rfl rfl TG.h rfl) ?_
     refine y_g rfl hg (.nilCheck rfl rfl) ?_
     first|refine y_g rfl hg (.fieldAddr_l rfl TF.h δ) ?_|refine y_g rfl hg (.fieldAddr_a rfl TF.h δ) ?_
     first|refine y_g rfl hg (.load_l rfl rfl rfl TG.h TS.h (nle rfl)) ?_|refine y_g rfl hg (.load_a rfl rfl TG.h TS.h (nle rfl)) ?_
     refine y_g rfl hg (.call rfl rfl rfl (hcm)) ?_;refine y_g rfl hg (.bin rfl rfl (vT ct (decide_eq_true (cq_gt.2 b3)))) ?_;refine o_0 (.pickT rfl hg rfl) ?_;refine ao (n_k ?_);refine cT (aB (⟨rfl,d',rfl,?_⟩));show SEntT _ ⟨[(1002,.lptr 3 0 0),(1003,bS1 m),(1006,bQ free),(1008,bD d),(1083,.arr [[bln true],[bln false]]),(1084,i64 2),(1085,i64 r)],seX d' k (some lv) s,4,156⟩;refine SEntT.to [] rfl rfl rfl (tA rfl rfl rfl rfl rfl rfl rfl rfl) (λhs=>aj rfl (Cv.ptr rfl rfl rfl) (aj rfl (ah hs (b9 _)) (aj rfl (ah hs (aT _)) (aj rfl (ah hs (b6 _)) (aj rfl (ah hs hcb) (aj rfl (ah hs (ag _)) (aj rfl (ah hs (ag _)) aF))))))) (λhs=>?_);exact uO hs rfl rfl rfl rfl rfl rfl rfl rfl rfl rfl (af (ah hs (aq _)) (af (ah hs (aq _)) (af (ah hs (aq _)) (af (ah hs (ag _)) (af (Cv.row hs rfl rfl rfl) (af (Cv.row hs rfl rfl rfl) (CvL.clo hs (gU _))))))))
    ·refine AWp.ent (st':=⟨[(11,bQ c),(2,.lptr 3 0 0),(3,bS1 m),(1002,.lptr 3 0 0),(1003,bS1 m),(1006,bQ free),(1008,bD d),(1083,.arr [[bln true],[bln false]]),(1084,i64 2),(1085,i64 r),(1095,.clos 194 [] [bQ free,bS1 k,bB1 up])],seX d' k nv s,4,156⟩) ?_ ?_
     refine dn [] rfl rfl rfl (tA rfl rfl rfl rfl rfl rfl rfl rfl) (λhs=>aj rfl (Cv.boxp hs rfl (aP rfl) rfl (bo _)) (aj rfl (Cv.ptr rfl rfl rfl) (aj rfl (ah hs (b9 _)) (aj rfl (Cv.ptr rfl rfl rfl) (aj rfl (ah hs (b9 _)) (aj rfl (ah hs (aT _)) (aj rfl (ah hs (b6 _)) (aj rfl (ah hs hcb) (aj rfl (ah hs (ag _)) (aj rfl (ah hs (ag _)) (aj rfl (ah hs hcc) aF))))))))))) (λhs=>?_);exact uO hs rfl rfl rfl rfl rfl rfl rfl rfl rfl rfl (af (ah hs (aq _)) (af (ah hs (aq _)) (af (ah hs (aq _)) (af (ah hs (ag _)) (af (Cv.row hs rfl rfl rfl) (af (Cv.row hs rfl rfl rfl) (CvL.clo hs (gU _))))))));refine bi (λ_:Unit=>⟨[(11,bQ c),(2,.lptr 3 0 0),(3,bS1 m),(1002,.lptr 3 0 0),(1003,bS1 m),(1006,bQ free),(1008,bD d),(1083,.arr [[bln true],[bln false]]),(1084,i64 2),(1085,i64 r),(1095,.clos 194 [] [bQ free,bS1 k,bB1 up])],seX d' k nv s,4,156⟩) (λ_=>True) ?_ ?_;rcases hcont with hg|⟨hg,b,hb,b1,b2,b3⟩
     refine ac (r_d hmix 19 ?_);refine a_5 ?_;refine n_g rfl hg ?_;refine n_g rfl hg ?_;refine n_g rfl hg ?_;refine n_g rfl hg ?_;refine n_g rfl hg ?_;refine n_g rfl hg ?_;refine n_g rfl hg ?_;refine n_g rfl hg ?_;refine n_g rfl hg ?_;refine n_g rfl hg ?_;refine n_g rfl hg ?_;refine n_g rfl hg ?_;refine n_g rfl hg ?_;refine o_0 (.pickF rfl hg rfl) ?_;refine ao (n_k ?_);refine cF (am ⟨(),trivial,?_⟩);refine dn [] rfl rfl rfl (tA rfl rfl rfl rfl rfl rfl rfl rfl) (λhs=>aj rfl (ah hs (aT _)) (aj rfl (Cv.ptr rfl rfl rfl) (aj rfl (ah hs (b9 _)) (aj rfl (Cv.ptr rfl rfl rfl) (aj rfl (ah hs (b9 _)) (aj rfl (ah hs (aT _)) (aj rfl (ah hs (b6 _)) (aj rfl (ah hs hcb) (aj rfl (ah hs (ag _)) (aj rfl (ah hs (ag _)) (aj rfl (ah hs hcc) aF))))))))))) (λhs=>?_);exact uO hs rfl rfl rfl rfl rfl rfl rfl rfl rfl rfl (af (ah hs (aq _)) (af (ah hs (aq _)) (af (ah hs (aq _)) (af (ah hs (ag _)) (af (Cv.row hs rfl rfl rfl) (af (Cv.row hs rfl rfl rfl) (CvL.clo hs (gU _))))))));have hbd:=qX f d' m b ω hb;have hcm:=ej b s.err b1 b2;refine ac (r_d hmix 19 ?_);refine a_5 ?_
     first|refine y_g rfl hg (.load_l1 rfl rfl rfl TG.h rfl) ?_|refine y_g rfl hg (.load_a1 rfl rfl TG.h rfl) ?_
     refine y_g rfl hg (.nilCheck rfl rfl) ?_
     first|refine y_g rfl hg (.fieldAddr_l rfl TF.h δ) ?_|refine y_g rfl hg (.fieldAddr_a rfl TF.h δ) ?_
     first|refine y_g rfl hg (.load_l rfl rfl rfl TG.h TS.h (nle rfl)) ?_|refine y_g rfl hg (.load_a rfl rfl TG.h TS.h (nle rfl)) ?_
     first|refine y_g rfl hg (.load_l1 rfl rfl rfl TG.h rfl) ?_|refine y_g rfl hg (.load_a1 rfl rfl TG.h rfl) ?_
     refine y_g rfl hg (.bin rfl rfl (iL ω)) ?_;refine y_g rfl hg (.call rfl rfl rfl (hbd)) ?_
     first|refine y_g rfl hg (.load_l1 rfl rfl rfl TG.h rfl) ?_|refine y_g rfl hg (.load_a1 rfl rfl TG.h rfl) ?_
     refine y_g rfl hg (.nilCheck rfl rfl) ?_
     first|refine y_g rfl hg (.fieldAddr_l rfl TF.h δ) ?_|refine y_g rfl hg (.fieldAddr_a rfl TF.h δ) ?_
     first|refine y_g rfl hg (.load_l rfl rfl rfl TG.h TS.h (nle rfl)) ?_|refine y_g rfl hg (.load_a rfl rfl TG.h TS.h (nle rfl)) ?_
     refine y_g rfl hg (.call rfl rfl rfl (hcm)) ?_;refine y_g rfl hg (.bin rfl rfl (vF ct (decide_eq_false (mt cq_gt.1 b3)))) ?_;refine o_0 (.pickT rfl hg rfl) ?_;refine ao (n_k ?_);refine cF (am ⟨(),trivial,?_⟩);refine dn [] rfl rfl rfl (tA rfl rfl rfl rfl rfl rfl rfl rfl) (λhs=>aj rfl (ah hs (aT _)) (aj rfl (Cv.ptr rfl rfl rfl) (aj rfl (ah hs (b9 _)) (aj rfl (Cv.ptr rfl rfl rfl) (aj rfl (ah hs (b9 _)) (aj rfl (ah hs (aT _)) (aj rfl (ah hs (b6 _)) (aj rfl (ah hs hcb) (aj rfl (ah hs (ag _)) (aj rfl (ah hs (ag _)) (aj rfl (ah hs hcc) aF))))))))))) (λhs=>?_);exact uO hs rfl rfl rfl rfl rfl rfl rfl rfl rfl rfl (af (ah hs (aq _)) (af (ah hs (aq _)) (af (ah hs (aq _)) (af (ah hs (ag _)) (af (Cv.row hs rfl rfl rfl) (af (Cv.row hs rfl rfl rfl) (CvL.clo hs (gU _))))))));rintro _ _;refine bi (λ_:Unit=>⟨[(2,.lptr 3 0 0),(3,bS1 m),(1002,.lptr 3 0 0),(1003,bS1 m),(1006,bQ free),(1008,bD d),(1083,.arr [[bln true],[bln false]]),(1084,i64 2),(1085,i64 r),(1095,.clos 194 [] [bQ free,bS1 k,bB1 up])],seX d' k (some (l++[c])) s,4,156⟩) (λ_=>True) ?_ ?_;cases nv with
     |none=>
      obtain rfl:[]=l:=hlj;refine r_d hmix 11 ?_;refine a_8 ?_;refine a_3 ?_;refine ao (n_k ?_);refine⟨(),trivial,?_⟩;refine dn [(1,130)] rfl rfl rfl (ShrL.cons rfl rfl rfl rfl rfl (ShrL.cons rfl rfl rfl rfl rfl (ShrL.same rfl rfl (ShrL.cons rfl rfl rfl rfl rfl ShrL.nil)))) (λhs=>aj rfl (Cv.ptr rfl rfl rfl) (aj rfl (ah hs (b9 _)) (aj rfl (Cv.ptr rfl rfl rfl) (aj rfl (ah hs (b9 _)) (aj rfl (ah hs (aT _)) (aj rfl (ah hs (b6 _)) (aj rfl (ah hs hcb) (aj rfl (ah hs (ag _)) (aj rfl (ah hs (ag _)) (aj rfl (ah hs hcc) aF)))))))))) (λhs=>?_);exact bw rfl rfl rfl rfl (ay (af (ah hs (aq _)) (af (ah hs (aq _)) (af (ah hs (aq _)) (af (ah hs (ag _)) (af (Cv.slE rfl rfl rfl rfl ψ rfl) (af (Cv.row hs rfl rfl rfl) (CvL.clo hs (gU _))))))))) (bw rfl rfl rfl rfl (bZ hs (aJ [c])) (CvH.same hs rfl rfl cf (bw rfl rfl rfl rfl (ay (af (Cv.ptr rfl rfl rfl) ax)) aD)))
     |some lv=>
      obtain rfl:lv=l:=hlj;have hon:=cy lv;have hlv:(pE lv).length=lv.length:=by simp[pE]
      have hpa:pE lv++[qC c]=pE (lv++[c]):=by simp[pE]
      refine r_d hmix 11 ?_;refine a_8 ?_;refine a_3 ?_;refine ao (n_k ?_);refine⟨(),trivial,?_⟩;refine dn [(1,130)] rfl rfl rfl (ShrL.cons rfl rfl rfl rfl rfl (ShrL.cons rfl rfl rfl rfl ψ (ShrL.same rfl rfl (ShrL.cons rfl rfl rfl rfl rfl ShrL.nil)))) (λhs=>aj rfl (Cv.ptr rfl rfl rfl) (aj rfl (ah hs (b9 _)) (aj rfl (Cv.ptr rfl rfl rfl) (aj rfl (ah hs (b9 _)) (aj rfl (ah hs (aT _)) (aj rfl (ah hs (b6 _)) (aj rfl (ah hs hcb) (aj rfl (ah hs (ag _)) (aj rfl (ah hs (ag _)) (aj rfl (ah hs hcc) aF)))))))))) (λhs=>?_);exact bw rfl rfl rfl rfl (ay (af (ah hs (aq _)) (af (ah hs (aq _)) (af (ah hs (aq _)) (af (ah hs (ag _)) (af (Cv.slE rfl rfl rfl rfl ψ rfl) (af (Cv.row hs rfl rfl rfl) (CvL.clo hs (gU _))))))))) (bw rfl rfl rfl rfl (aI hs hpa (aJ _)) (CvH.same hs rfl rfl cf (bw rfl rfl rfl rfl (ay (af (Cv.ptr rfl rfl rfl) ax)) aD)))
     rintro _ _;have hXs:=IH d' (some (l++[c])) s sN hsN (λh=>by cases h);rw[show(some (l++[c])).getD []=l++[c] from rfl] at hXs;refine ac (AWp.regF (fr2:=[(133,.lptr 0 0 0),(135,i64 ((m:Int)- 1)),(2,.lptr 3 0 0),(3,bS1 m),(1002,.lptr 3 0 0),(1003,bS1 m),(1006,bQ free),(1008,bD d),(1083,.arr [[bln true],[bln false]]),(1084,i64 2),(1085,i64 r),(1095,.clos 194 [] [bQ free,bS1 k,bB1 up])]) (hp2:=seX d' k (some (l++[c])) s) (nx2:=4) (k:=3) (hpc:=seH d' k (some (l++[c])) s) (hpd:=seH d' k (some (l++[c])) sN) (hp3:=seX d' k (some (l++[c])) sN) (fr3:=[(2,.lptr 3 0 0),(3,bS1 m),(1002,.lptr 3 0 0),(1003,bS1 m),(1006,bQ free),(1008,bD d),(1083,.arr [[bln true],[bln false]]),(1084,i64 2),(1085,i64 r),(1095,.clos 194 [] [bQ free,bS1 k,bB1 up])]) 3 rfl rfl rfl rfl rfl ?_ (λd h=>by cases h;rfl) rfl rfl hXs δ (Nat.le_refl _) ?_ ?_ (sw _ _ _ _) (se_top _ _ _ _) (se_box _ _ _ _) (se_mix _ _ _ _ _) (sw _ _ _ _) rfl rfl ?_ ?_)
     first|refine av (.load_l1 rfl rfl rfl TG.h rfl) rfl rfl ?_|refine av (.load_a1 rfl rfl TG.h rfl) rfl rfl ?_
     first|refine av (.load_l1 rfl rfl rfl TG.h rfl) rfl rfl ?_|refine av (.load_a1 rfl rfl TG.h rfl) rfl rfl ?_
     refine o_0 (.bin rfl rfl (iL ω)) ?_;refine ao ?_;refine SEntT.to [] rfl rfl rfl (tA rfl rfl rfl rfl rfl rfl rfl rfl) (λhs=>aj rfl (Cv.ptr rfl rfl rfl) (aj rfl (ah hs (ag _)) (aj rfl (Cv.ptr rfl rfl rfl) (aj rfl (ah hs (b9 _)) (aj rfl (Cv.ptr rfl rfl rfl) (aj rfl (ah hs (b9 _)) (aj rfl (ah hs (aT _)) (aj rfl (ah hs (b6 _)) (aj rfl (ah hs hcb) (aj rfl (ah hs (ag _)) (aj rfl (ah hs (ag _)) (aj rfl (ah hs hcc) aF)))))))))))) (λhs=>?_);exact uO hs rfl rfl rfl rfl rfl rfl rfl rfl rfl rfl (af (ah hs (aq _)) (af (ah hs (aq _)) (af (ah hs (aq _)) (af (ah hs (ag _)) (af (Cv.row hs rfl rfl rfl) (af (Cv.row hs rfl rfl rfl) (CvL.clo hs (gU _))))))));intro x hx;simp only[List.append_nil,List.mem_cons,List.not_mem_nil,or_false] at hx;rcases hx with rfl|rfl
     exact .ptr ⟨δ,rfl⟩;exact .clo (ag _);intro i hi
     match i,hi with
     |0,_=>rfl
     |1,_=>rfl
     |2,_=>rfl
     intro t x hx;have hm:=look_mem' hx;simp only[List.mem_cons,Prod.mk.injEq,List.not_mem_nil,or_false] at hm;rcases hm with⟨rfl,rfl⟩|⟨rfl,rfl⟩|⟨rfl,rfl⟩|⟨rfl,rfl⟩|⟨rfl,rfl⟩|⟨rfl,rfl⟩|⟨rfl,rfl⟩|⟨rfl,rfl⟩|⟨rfl,rfl⟩|⟨rfl,rfl⟩
     exact⟨rfl,.ptr (.inr (Nat.le_refl _))⟩;exact⟨rfl,.clo (b9 _)⟩;exact⟨rfl,.ptr (.inr (Nat.le_refl _))⟩;exact⟨rfl,.clo (b9 _)⟩;exact⟨rfl,.clo (aT _)⟩;exact⟨rfl,.clo (b6 _)⟩;exact⟨rfl,.clo hcb⟩;exact⟨rfl,.clo (ag _)⟩;exact⟨rfl,.clo (ag _)⟩;exact⟨rfl,.clo hcc⟩;refine ao ?_;have hlen:(l++[c]).length=l.length+1:=ψ
     refine r_d hmix 15 ?_;refine a_8 ?_;refine a_3 ?_;refine o_0 (.slice_l (l:=0) (h:=l.length) rfl ⟨⟨_,rfl,.inl ⟨rfl,rfl⟩⟩,⟨_,rfl,.inr ⟨_,_,rfl,ψ⟩⟩,⟨_,rfl,.inl ⟨rfl,rfl⟩⟩⟩ (Nat.zero_le _) ψ (.inl rfl) te_30.h) ?_;refine a_3 ?_;refine ao (n_k ?_);refine⟨(j+1,d',some l,sN),⟨⟨by simp only;omega,?_,rfl,λh=>by cases h⟩,rfl⟩,?_⟩;simp only;rw[show f- (j+1)=q by omega,owV,<-hc];exact hgoN;show SEntT _ ⟨[(1002,.lptr 3 0 0),(1003,bS1 m),(1006,bQ free),(1008,bD d),(1083,.arr [[bln true],[bln false]]),(1084,i64 2),(1085,i64 r),(1095,.clos 194 [] [bQ free,bS1 k,bB1 up])],seX d' k (some l) sN,4,156⟩;refine SEnt.thenT (SEnt.cut 1 l.length (hp':=(1,some ⟨42,3,(pE (l++[c])).take l.length⟩)::_) (B:=⟨42,3,pE (l++[c])⟩) rfl (show(3:Nat)≠0 by decide) (λj=>by rw[de];rfl)) ?_;refine SEntT.to [] rfl rfl rfl (ShrL.cons rfl rfl rfl rfl rfl (ShrL.cons rfl rfl rfl rfl (by rw[C0]) (ShrL.same rfl rfl (ShrL.cons rfl rfl rfl rfl rfl ShrL.nil)))) (λhs=>aj rfl (Cv.ptr rfl rfl rfl) (aj rfl (ah hs (b9 _)) (aj rfl (ah hs (aT _)) (aj rfl (ah hs (b6 _)) (aj rfl (ah hs hcb) (aj rfl (ah hs (ag _)) (aj rfl (ah hs (ag _)) (aj rfl (ah hs hcc) aF)))))))) (λhs=>?_);exact bw rfl rfl rfl rfl (ay (af (ah hs (aq _)) (af (ah hs (aq _)) (af (ah hs (aq _)) (af (ah hs (ag _)) (af (Cv.slE rfl rfl rfl rfl rfl rfl) (af (Cv.row hs rfl rfl rfl) (CvL.clo hs (gU _))))))))) (bw rfl rfl rfl rfl (aI hs (C0 l c) (aJ _)) (CvH.same hs rfl rfl cf (bw rfl rfl rfl rfl (ay (af (Cv.ptr rfl rfl rfl) ax)) aD)))
   intro x hx hT;cases hT;rintro e dd rfl;show AWp _ _ _ _ (gdX d m k free r l sE dd);rw[gdX.eq_1];refine r_m 2 ?_;refine a_z ?_;refine⟨(r+1,dd,some l,sE),by simp only;omega,.inr hnx,?_⟩;rw[gdS.eq_1];refine dn [] rfl rfl rfl (tA rfl rfl rfl rfl rfl rfl rfl rfl) (λhs=>aj rfl (Cv.ptr rfl rfl rfl) (aj rfl (ah hs (b9 _)) (aj rfl (ah hs (aT _)) (aj rfl (ah hs (b6 _)) (aj rfl (ah hs hcb) (aj rfl (ah hs (ag _)) (aj rfl (Cv.loE hs (by simp[i64]) (ag _)) aF))))))) (λhs=>?_);exact uO hs rfl rfl rfl rfl rfl rfl rfl rfl rfl rfl (af (ah hs (aq _)) (af (ah hs (aq _)) (af (ah hs (aq _)) (af (ah hs (ag _)) (af (Cv.row hs rfl rfl rfl) (af (Cv.row hs rfl rfl rfl) (CvL.clo hs (gU _))))))))
  rintro dd _;refine r_m 5 ?_;refine a_z ?_;refine FinX0.norm ?_;refine dn [] rfl rfl rfl (ShrL.cons rfl rfl rfl rfl rfl (ShrL.same rfl rfl (ShrL.same rfl rfl ShrL.nil))) (λhs=>aF) (λhs=>?_);exact bw rfl rfl rfl rfl (ay (af (ah hs (aq _)) (af (ah hs (aq _)) (af (ah hs (aq _)) (af (ah hs (ag _)) (af (Cv.row hs rfl rfl rfl) (af (Cv.row hs rfl rfl rfl) (CvL.clo hs (gU _))))))))) (CvH.same hs rfl rfl cf (CvH.same hs rfl rfl cf aD))
end Go.Proofs.YtjgokhkahkmpbaaGreatDoor
