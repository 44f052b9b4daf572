/- For every input the law RuleOn returns true; the listed variables start as the program's text lays them (tied). -/
import Derived.Test.YtdjfjpeoddmamaaGreatDoorO33
import Derived.Test.YtdjfjpeoddmamaaGreatDoorRows
import Derived.JoinedOf
import Derived.SevenTiedAt
import Derived.Lib.LaidTab
import Derived.Test.YtdjfjpeoddmamaaGreatDoorTie
import Derived.Test.YtdjfjpeoddmamaaGreatDoorCards
import Derived.LaidMore
import Derived.Stop.Joined
import Derived.MakeChecks
set_option linter.all false
namespace Go.Proofs.YtdjfjpeoddmamaaGreatDoor
open Go.Abs
set_option maxRecDepth 20000
set_option maxHeartbeats 4000000
theorem ln_:FS 45 [.agg (ruC [] [])] (bln true):=by
 refine f_n Tryz.func45 ?_ ?_;exact ab_ (au_ (bn_ [] [])) ah_;refine r_z 2 ?_;refine s_r 9 ?_;refine a_6 ?_;refine o_0 (.bin rfl rfl (p9_ (by simp))) ?_;refine o_0 (.bin rfl rfl (vT aU_ (rfl))) ?_;refine a_z ?_;exact af_ (t_e (ad_ _))
theorem fs_sameR(T V:List Rat)(hT:trimQ T=T)(hV:trimQ V=V)(bT:bdL T 68719476736)(bV:bdL V 68719476736)(lT:T.length≤1000)(lV:V.length≤1000):FS 46 [.agg (ruC T V),.agg (rruC T V)] (bln true):=by
 have h1:=pu_ T (rP T) (bS_ _) (by rw[vR_rP];exact hT) bT (by rw[aP_];omega);have h2:=pu_ V (rP V) (bS_ _) (by rw[vR_rP];exact hV) bV (by rw[aP_];omega);refine f_n Tryz.func46 ?_ ?_;exact ab_ (au_ (bn_ T V)) (ab_ (au_ (fm_ T V)) ah_);refine r_z 3 ?_;refine r_c 13 (h1) ?_;refine c_s (h2) ?_;refine a_z ?_;exact af_ (t_e (ad_ _))
theorem on_pack {N m:List Rat} {l r:Bool} {a b:Rat} (x y:RQ) {n:Nat} (hw:okW m l r a b) (ha:sm a) (hb:sm b) (hmb:bdL m 3000) (hml:n≤m.length) (hl15:m.length≤15) (hN:RealV N) (hd:degP N=(n:Int)) (hNl:N.length≤6) (hNb:bdL N 20)
    (hr:FS 160 [.arr (pE N)] (bln true)):
    ∃T V,FS 60 [.agg (wC m l r (qC a) (qC b)),.arr (pE N)] (.tup [.agg (ruC T V),i64 0])∧FS 47 [.agg (rwC m l r x y),.arr (rE (rP N))] (.agg (rruC T V))∧FS 46 [.agg (ruC T V),.agg (rruC T V)] (bln true)∧
     (∀f:List Rat,f.length≤8→bdL f 256→∃v,FS 24 [.agg (ruC T V),.arr (pE f)] (.tup [.agg (qC v),i64 0])∧FS 63 [.agg (rruC T V),.arr (rE (rP f))] (.agg (rC (rq v)))∧qs v≤68719476736)∧
     ∃(d:Int) (s:Bool),FS 61 [.agg (wC m l r (qC a) (qC b)),.agg (ruC T V)] (.tup [i64 d,bln s,i64 0])∧FS 62 [.agg (rwC m l r x y),.agg (rruC T V)] (.tup [i64 d,bln s]):=by
 obtain⟨np,⟨A,B,hco0⟩,_⟩:=hN.facts;have htl:=aB_ N;have hn:1≤n∧n≤5:=by have h1:=hN.1;unfold degP at hd h1;omega
 obtain⟨T,hT⟩:∃T,T=aG_ N:=⟨_,rfl⟩;have hrT:=fs_realT N n hN hd hNl hNb;obtain⟨hl,ht,hm,hTb,hH,κ,κ0,hκ⟩:=i1_ np hd hNl hNb;rw[←hT] at hl ht hm hTb hH hκ hrT;obtain⟨n1,n2,n3,n4⟩:=t_len hn hl ht hm
 have hco:∀x,evalP (av_ A (1/ κ)) x* evalP T x+evalP (av_ B (1/ κ)) x* dvE T x=1:=fun x=>by
  have h1:=hco0 x;rw[as_,as_,hκ,dvE_k hκ x];have c:=Rat.div_mul_cancel (a:=1) κ0;generalize 1/ κ=w at *
  grind
 obtain⟨G,A',z1,z2,z3,z4,V,z5,z6,z7,z8,z9⟩:=w_own hn hl ht hm hTb hmb hco;obtain⟨C,hC⟩:=hk_ok hn hl ht hm hco m;obtain⟨hx,_⟩:=sz_ hn hl ht hm hco hC z8 z9 z7;have hVb:=hk_size hn hl ht hm hco hH hmb hC hx;have hde:=g8_ T (ft_ hTb (by decide)) (by omega);have hbz:=mY_ 9 (at_ T) T G A' n1 (by omega) z1 z2;have hon:=fs_on T m l r a b n 40 3000 _ _ _ hl ht (by omega) hTb hmb (by omega) (by omega) hml (Nat.le_trans (Nat.mul_le_mul_right _ (show n+2≤7 by omega)) (by decide)) hde hbz z3 z4;rw[←z5] at hon;have hOn:=fs_On m l r a b N V hw ha hb hr (by omega) (bdL_mono' hNb (by decide)) np (by omega) (by rw[←hT];exact hon);rw[←hT] at hOn
 have dV:degP V< degP T:=by
  by_cases h:nz V;rw[fl_ h,fl_ n1];have:=z9 h;omega;have:=degP_nil.2 h;omega
 have hck:=h1_ T V hrT hm dV (by omega) (by omega);have hcw:=cB_ m l r a b ⟨hw.1,hw.2.1⟩ hw.2.2 ha hb;have hbo:=mF_ T V m l r a b hcw hck;obtain⟨s1,s2⟩:=w_su hn hl ht hm hTb;have hsu:=sJ_ T V n (by rw[ht,hl]) hn.1 (by omega) (by omega) (by rw[ht];exact s2);rw[ht] at hsu
 have happ:∀f:List Rat,f.length≤15→bdL f 256→FS 103 [.agg (ruC T V),.arr (pE f)] (.agg (qC (trP T (mulP V f))))∧qs (trP T (mulP V f))≤137438953472:=fun f hf hfb=>by
  obtain⟨o1,o2,o3,o4,o5,o6,o7⟩:=w_apply hn hl ht hm hTb z6 hVb hf hfb;have:=pq_ T V f _ 1100000000 4000 hsu n1 o1 o2 o3 o4 s1 (by omega) (by omega) (by omega) (by rw[dq_];omega) (Nat.le_trans (Nat.mul_le_mul_right _ (show(apR T V f).length+2≤7 by omega)) (by decide));rw[o7] at this o6;exact⟨this,o6⟩
 refine⟨T,V,hOn,fs_rOn l r x y hT.symm (by omega) hNb hn hl ht hm hTb hH hmb hml (by omega) hco z8 z9 z7,fs_sameR T V ht z7 (bdL_mono' hTb (by decide)) (bdL_mono' hVb (by decide)) (by omega) (by omega),fun f hf hfb=>?_,?_⟩;obtain⟨h1,_⟩:=happ f (by omega) hfb;obtain⟨h3,h2⟩:=mM_ hn hl ht hm hTb hH z6 hVb (rP f) (bS_ _) (by rw[aP_];omega) (by rw[vR_rP];exact hfb);rw[vR_rP] at h3 h2;exact⟨_,fs_Apply T V f _ hck h1,h3,h2⟩
 have hpw:∀k,k≤14→FS 103 [.agg (ruC T V),.arr (pE (List.replicate k 0++[((1:Int):Rat)]))] (.agg (qC (trP T (mulP V (gK [1] k)))))∧sm (trP T (mulP V (gK [1] k))):=fun k hk=>by
  have h:=happ (List.replicate k 0++[((1:Int):Rat)]) (by simp;omega) (bdL_mono' (jL_ (s:=1) (fun q hq=>by rw[List.mem_singleton.1 hq];decide) (by decide) k) (by decide))
  have he:trP T (mulP V (List.replicate k 0++[((1:Int):Rat)]))=trP T (mulP V (gK [1] k)):=(in_ n1 V).eqv fun x=>by
   rw[ct_];have:=hb_ [((1:Int):Rat)] x k;unfold shP at this;rw[this,ay_,ax_];grind
  rw[he] at h;exact h
 have hms:∀q∈m,sm q:=fun q hq=>Nat.le_trans (hmb q hq) (by decide);obtain⟨d,d1,d2,d3⟩:=leastN (P:=fun k=>k=m.length∨trP T (mulP V (gK [1] k))≠coP m k) m.length (.inl rfl);have heq:∀k,k< d→trP T (mulP V (gK [1] k))=coP m k:=fun k hk=>Classical.not_not.1 fun e=>d3 k hk (.inr e);have hR:=fs_rDegR hn hl ht hm hTb hH z6 hVb m l r x y hmb hl15 d d1 heq (fun h=>d2.resolve_left (by omega));by_cases hdm:d< m.length;rw[decide_eq_true hdm] at hR;exact⟨(d:Int)- 1,true,ks_ T V m l r a b d _ hbo (fun k hk=>(hpw k (by omega)).1) hdm (by omega) hms (fun k hk=>(hpw k (by omega)).2) heq (d2.resolve_left (by omega)),hR⟩;have hde:d=m.length:=by omega
 rw[decide_eq_false hdm,hde] at hR;exact⟨(m.length:Int)- 1,false,n0_ T V m l r a b _ hbo (fun k hk=>(hpw k (by omega)).1) (by omega) hms (fun k hk=>(hpw k (by omega)).2) (fun k hk=>heq k (by omega)),hR⟩
theorem s1_(x:LoR)(nd lf:List NRow)(hx:okLo x)(hxm:x.mo.length≤9223372036854775807)(hnd:okR nd)(hndl:nd.length≤9223372036854775807)(hlf:okR lf):FS 7 [.agg (loC x),.arr (nR nd),.arr (nR lf)] (.v (.bool true)):=by
 have cX:=hN_ x;have hld:=fs_Loads x 14 hx (by decide) hxm;have lok:=ldW_ok x hx 14;have ltm:=so_ x 14 (by decide) hx;have hT:=n7_ nd 6 hndl (by decide);have hll:(nR lf).length=lf.length:=by simp[nR]
 have cN:=b2_ nd;have cL:=b2_ lf;refine f_c Tryz.func7 ?_;refine r_z 2 ?_;cases hw:ldW x 14 with
 |none=>
  rw[hw] at hld;refine r_c 11 (hld) ?_;refine a_z ?_;refine aa_ (r_z 12 ?_);refine cT (r_c 2 (ef_) ?_);refine a_z ?_;exact af_ (t_e (ad_ _))
 |some w=>
 rw[hw] at hld;have ok:=lok w hw;have tm:=ltm w hw;simp only[Option.getD_some,Option.isSome_some] at hld;refine r_c 11 (hld) ?_;refine a_z ?_;have cA:∀c∈w.A,Closed c:=w.cA;have cB:∀c∈w.B,Closed c:=ca_;refine AWp.ent (st':=⟨[(1,.arr (nR nd)),(2,.arr (nR lf)),(7,.aptr [w.A] 0 0),(8,.aptr [w.B] 0 0),(9,bln true)],[],1,142⟩) ?_ ?_;refine s_x [] (fun hs=>?_) (fun hs=>?_)
 ·repeat' (first|exact a2_|refine aH_ rfl ?_ ?_|exact Cv.boxp hs rfl (aW_ rfl) rfl cA|exact Cv.boxp hs rfl (aW_ rfl) rfl cB|exact an_ hs (aL_ cN)|exact an_ hs (aL_ cL)|exact au_c)
 ·repeat' (first|exact az_|refine h_c ?_ ?_|exact au_e|refine al_ ?_|exact ao_|refine ag_ ?_ ?_|exact Cv.boxp hs rfl (aW_ rfl) rfl cA|exact Cv.boxp hs rfl (aW_ rfl) rfl cB|exact an_ hs (aL_ cN)|exact an_ hs (aL_ cL)|exact au_c)
 cases ht:tameB nd 6 with
 |false=>
  rw[ht] at hT;refine aa_ (r_c 12 (hT) ?_);refine a_z ?_;refine cT (r_c 2 (ef_) ?_);refine a_z ?_;exact af_ (t_e (ad_ _))
 |true=>
 rw[ht] at hT;by_cases h8:8< lf.length;refine aa_ (r_c 12 (hT) ?_);refine d_z ?_;refine cT (r_c 2 (ef_) ?_);refine a_z ?_;exact af_ (t_e (ad_ _));refine aa_ (r_c 12 (hT) ?_);refine d_z ?_;refine cF (ae_ ?_);obtain⟨bN,lN⟩:=ny_ ht hnd;have lF:(nL lf).length≤8:=by simp[nL];omega
 have bF:bdL (nL lf) 256:=nL_qs hlf;have lNn:(nL nd).length=nd.length:=by simp[nL]
 have hPN:=py_ nd (by omega) hnd;have hPF:=py_ lf (by omega) hlf;generalize nL nd=N at *
 generalize nL lf=F at *
 refine r_c 7 (hPN) ?_;refine a_z ?_;refine r_c 7 (hPF) ?_;refine a_z ?_;have hvl:=sM_ w.m w.l w.r w.x w.y (by have:=ok.len;omega) ok.ox ok.oy (by have:=ok.qa;have:=ok.qb;rw[ok.ex,ok.ey];omega);rw[ok.ex,ok.ey] at hvl;have sa:sm w.a:=Nat.le_trans ok.qa (by decide);have sb:sm w.b:=Nat.le_trans ok.qb (by decide);have okl:=ok.len;obtain⟨m,l,r,a,b,X,Y⟩:=w;simp only at *
 refine AWp.ent (st':=⟨[(7,.aptr [wC m l r (qC a) (qC b)] 0 0),(8,.aptr [rwC m l r X Y] 0 0),(10,.arr (pE N)),(11,.arr (rE (rP N))),(12,.arr (pE F)),(13,.arr (rE (rP F)))],[],1,142⟩) ?_ ?_;refine s_x [] (fun hs=>?_) (fun hs=>?_)
 ·repeat' (first|exact a2_|refine aH_ rfl ?_ ?_|exact an_ hs (aE_ cA)|exact an_ hs (aE_ cB)|exact au_c)
 ·repeat' (first|exact az_|refine h_c ?_ ?_|exact au_e|refine al_ ?_|exact ao_|refine ag_ ?_ ?_|exact an_ hs (aE_ cA)|exact an_ hs (aE_ cB)|exact au_c)
 have fin2:∀e:Int,e≠0→e=e:=fun _ _=>rfl;by_cases hok:okW m l r a b;rotate_left;rw[decide_eq_false hok] at hvl;have hOn:=fs_OnX m l r a b sa sb N hok (by omega);refine r_c 9 (hOn) ?_;refine a_z ?_;refine r_z 1 ?_;refine aa_ (r_c 8 (hvl) ?_);refine a_z ?_;refine cT (r_m 1 ?_);refine a_z ?_;refine aa_ (s_r 2 ?_);refine a_1 ?_;refine o_0 (.bin rfl rfl (vT bd_ (rfl))) ?_;refine ai_ ?_;refine cT (s_r 11 ?_);refine a_2 ?_;refine o_0 (.bin rfl rfl (vT aU_ (rfl))) ?_;refine c_s (ln_) ?_;refine c_s (ef_) ?_;refine a_z ?_;exact af_ (t_e (ad_ _));rw[decide_eq_true hok] at hvl;obtain⟨mb,ml⟩:=tm hok;obtain⟨rb,hrr,hri⟩:=sO_ N (by omega) bN;obtain⟨rb2,hrp,hpi⟩:=fs_realI N (by omega) bN
 have hbb:rb2=rb:=by
  cases rb <;> cases rb2;rfl;exact absurd (hri.2 (hpi.1 rfl)) (by decide);exact absurd (hpi.2 (hri.1 rfl)) (by decide);rfl
 subst hbb;cases rb2 with
 |false=>
  have hOn:=fs_OnR m l r a b sa sb N hok hrp;refine r_c 9 (hOn) ?_;refine a_z ?_;refine r_z 1 ?_;refine aa_ (r_c 8 (hvl) ?_);refine c_s (hrr) ?_;refine a_z ?_;refine cT (r_m 1 ?_);refine a_z ?_;refine aa_ (s_r 2 ?_);refine a_1 ?_;refine o_0 (.bin rfl rfl (vT bd_ (rfl))) ?_;refine ai_ ?_;refine cT (s_r 11 ?_);refine a_2 ?_;refine o_0 (.bin rfl rfl (vT aU_ (rfl))) ?_;refine c_s (ln_) ?_;refine c_s (ef_) ?_;refine a_z ?_;exact af_ (t_e (ad_ _))
 |true=>
 have hRV:=hri.1 rfl;have hml:(rP m).length=m.length:=aP_ m;have hdg:=dw_ (rP N) (by rw[aP_];omega);rw[vR_rP] at hdg;obtain⟨n,hn⟩:∃n:Nat,degP N=(n:Int):=⟨(degP N).toNat,by have:=hRV.1;omega⟩;rw[hn] at hdg;by_cases hln:m.length< n;have hOn:=fs_OnL m l r a b sa sb N hok hrp (by omega) (by omega);refine r_c 9 (hOn) ?_;refine a_z ?_;refine r_z 1 ?_;refine aa_ (r_c 8 (hvl) ?_);refine c_s (hrr) ?_;refine a_z ?_;refine cF (aa_ (r_d hmix 6 ?_));refine c_s (hdg) ?_;refine m_1 ?_;refine ai_ (n_k ?_);refine cT (r_m 1 ?_);refine a_z ?_;refine aa_ (s_r 2 ?_);refine a_1 ?_;refine o_0 (.bin rfl rfl (vT bd_ (rfl))) ?_;refine ai_ ?_;refine cT (s_r 11 ?_);refine a_2 ?_;refine o_0 (.bin rfl rfl (vT aU_ (rfl))) ?_;refine c_s (ln_) ?_;refine c_s (ef_) ?_;refine a_z ?_;exact af_ (t_e (ad_ _));obtain⟨T,V,hOn,hrO,hsm,hap,d,s,hdp,hdr⟩:=on_pack X Y hok sa sb mb (by omega) (by omega) hRV hn (by omega) bN hrp;obtain⟨v,ha1,ha2,ha3⟩:=hap F lF bF;have hsn:=pv_ v (rq v) (aR_ _) rfl ha3;refine r_c 9 (hOn) ?_;refine a_z ?_;refine r_z 1 ?_;refine aa_ (r_c 8 (hvl) ?_);refine c_s (hrr) ?_;refine a_z ?_;refine cF (aa_ (r_d hmix 6 ?_));refine c_s (hdg) ?_;refine m_1 ?_;refine ai_ (n_k ?_);refine cF (ae_ (aa_ (s_r 2 ?_)));refine a_1 ?_;refine o_0 (.bin rfl rfl (vF bd_ (rfl))) ?_;refine ai_ ?_;refine cF (ae_ (r_c 5 (hrO) ?_));refine a_z ?_;refine aa_ (s_r 8 ?_);refine a_1 ?_;refine o_0 (.bin rfl rfl (vF bd_ (rfl))) ?_;refine c_s (hsm) ?_;refine a_z ?_;refine cF (ae_ (r_c 9 (ha1) ?_));refine a_z ?_
 refine r_c 10 (hdp) ?_;refine a_z ?_;refine r_c 8 (hdr) ?_;refine a_z ?_;refine aa_ (r_d hmix 27 ?_);refine a_1 ?_;refine o_0 (.bin rfl rfl (vT aU_ (rfl))) ?_;refine c_s (ha2) ?_;refine c_s (hsn) ?_;refine d_3 ?_;refine aA_ rfl rfl rfl (.bin rfl rfl (vT aU_ (rfl))) rfl rfl ?_;refine d_4 ?_;refine aA_ rfl rfl rfl (.bin rfl rfl (vT aU_ (beq_self_eq_true d))) rfl rfl ?_;refine d_4 ?_;refine aA_ rfl rfl rfl (.bin rfl rfl (vT (p4_ tu_4.h) (beq_self_eq_true s))) rfl rfl ?_;refine c_s (ef_) ?_;refine a_2 ?_;refine ai_ (n_k ?_);exact af_ (t_e (ad_ _))
theorem rvlen{W:World}{l:List NRow}{v:Value}(h:RV (fun _=>False) (fun _=>none) W (.arr (nR l)) v):l.length≤9223372036854775807:=by
 obtain⟨_,_,_,hle,hcap,_⟩:=h;have h1:(nR l).length=l.length:=by simp[nR]
 have hm:maxLen=9223372036854775807:=by decide
 omega
end Go.Proofs.YtdjfjpeoddmamaaGreatDoor
namespace Go.Proofs.YtdjfjpeoddmamaaGreatDoor
open Go
def mkF(P:Program)(fn:Func)(c:OpenClaim):Bool:=(P.make==some c.make) && (c.kinds==(if c.domain.isEmpty then [] else fn.params.toList.map fun t=>match P.underlying t with|some (.int k)=>some k|_=>none)) && (c.pinned==c.pinnedBy)
section
variable {P:Program}{f:FuncId}{fn:Func}{s:ChangeSpec}{c:OpenClaim}
theorem ss_ (h1:c.wf (OpenSpec.ofChange s)=true) (h2:laidOutB P=true) (h3:mapsRowed P=true)
    (h4:fn.params.all (P.readableRec ·)=true) (h5:namedTie P c.named s.vars=true)
    (h6:((c.stops==[]) && (P.stops==[]) && (c.knobs==[]) && (P.stopKnobs==[]))=true)
    (h7:(c.inPlace==P.inPlace f)=true) (h8:(c.unfollowed==P.unfollowed f)=true) (h9:(c.recurses==P.recurses f)=true) (h10:(c.named==P.varsNamed f)=true)
    (h11:((c.maps==(fn.params.toList++s.plain.varTypes P).any (P.mapsRec ·)) && (c.ifaces==(fn.params.toList++s.plain.varTypes P).any (P.ifacesRec ·)) && (c.mapsOut==P.mapsAmong fn.resultTypes.toList))=true)
    (h12:((c.loops==(fn.params.toList++s.plain.varTypes P).any (P.loopsFrom ·)) && (c.wideKeys==(fn.params.toList++s.plain.varTypes P++fn.resultTypes.toList).any (P.wideKeysFrom ·)))=true)
    (h13:(s.vars.all (P.varReadable ·) && fn.resultTypes.all (fun t=>P.readableRec t && decide (t< P.types.size)) && (c.ifacesOut==fn.resultTypes.toList.any (P.ifacesRec ·)) && (c.loopsOut==fn.resultTypes.toList.any (P.loopsFrom ·)) && (c.plainKeys==P.plainKeys) && c.shortTexts.isNone)=true)
    (h14:P.stopsHeard=true) (h15:P.mayEnter=true) (h16:(c.lifted==P.liftsFinal)=true)
    (h17:mkF P fn c=true)
    (h18:((c.veiled==(fn.params.toList++s.plain.varTypes P++fn.resultTypes.toList).any (P.veiledRec ·)) && c.veiledFits P fn.params.toList (fn.params.toList++s.plain.varTypes P++fn.resultTypes.toList))=true):
    joinedFacts P f fn s c=true:=by
 unfold mkF at h17;simp only[Bool.and_eq_true] at h6 h11 h12 h13 h17 h18;simp only[joinedFacts,Bool.and_eq_true]
 and_intros
 all_goals first|assumption|exact h6.1.1.1|exact h6.1.1.2|exact h6.1.2|exact h6.2|exact h11.1.1|exact h11.1.2|exact h11.2|exact h12.1|exact h12.2|exact h13.1.1.1.1.1|exact h13.1.1.1.1.2|exact h13.1.1.1.2|exact h13.1.1.2|exact h13.1.2|exact h13.2|exact h17.1.1|exact h17.1.2|exact h17.2|exact h18.1|exact h18.2
end
theorem qa_:laidOutB Tryz.prog=true:=by kernel_rfl
theorem all_mr:mapsRowed Tryz.prog=true:=by kernel_rfl
theorem all_sh:Tryz.prog.stopsHeard=true:=by kernel_rfl
theorem all_me:Tryz.prog.mayEnter=true:=by kernel_rfl
theorem all_lk:false=Tryz.prog.looks []:=by kernel_rfl
theorem all_mi:Tryz.prog.mainIs=some (true,("854b0172178e1658f68fdbd1af1c5e470e78f85c99764663bd0791e63856cf6f" :String).toList):=by kernel_rfl
theorem all_lf:Tryz.prog.liftsFinal=Rows.polyMembersRow.lifted:=by kernel_rfl
theorem rs_:Rows.ruleOnRow.wf (OpenSpec.ofChange Rows.ruleOnSpec)=true:=by kernel_rfl
theorem ry_:Tryz.f7.params.all (Tryz.prog.readableRec ·)=true:=by kernel_rfl
theorem rA_:namedTie Tryz.prog Rows.ruleOnRow.named Rows.ruleOnSpec.vars=true:=by kernel_rfl
theorem rx_:((Rows.ruleOnRow.stops==[]) && (Tryz.prog.stops==[]) && (Rows.ruleOnRow.knobs==[]) && (Tryz.prog.stopKnobs==[]))=true:=by kernel_rfl
theorem rG_:(Rows.ruleOnRow.inPlace==Tryz.prog.inPlace 7)=true:=by kernel_rfl
theorem rw_:(Rows.ruleOnRow.unfollowed==Tryz.prog.unfollowed 7)=true:=by kernel_rfl
theorem rz_:(Rows.ruleOnRow.recurses==Tryz.prog.recurses 7)=true:=by kernel_rfl
theorem ru_:(Rows.ruleOnRow.named==Tryz.prog.varsNamed 7)=true:=by kernel_rfl
theorem rB_:((Rows.ruleOnRow.maps==(Tryz.f7.params.toList++Rows.ruleOnSpec.plain.varTypes Tryz.prog).any (Tryz.prog.mapsRec ·)) && (Rows.ruleOnRow.ifaces==(Tryz.f7.params.toList++Rows.ruleOnSpec.plain.varTypes Tryz.prog).any (Tryz.prog.ifacesRec ·)) && (Rows.ruleOnRow.mapsOut==Tryz.prog.mapsAmong Tryz.f7.resultTypes.toList))=true:=by kernel_rfl
theorem rD_:((Rows.ruleOnRow.loops==(Tryz.f7.params.toList++Rows.ruleOnSpec.plain.varTypes Tryz.prog).any (Tryz.prog.loopsFrom ·)) && (Rows.ruleOnRow.wideKeys==(Tryz.f7.params.toList++Rows.ruleOnSpec.plain.varTypes Tryz.prog++Tryz.f7.resultTypes.toList).any (Tryz.prog.wideKeysFrom ·)))=true:=by kernel_rfl
theorem rt_:(Rows.ruleOnSpec.vars.all (Tryz.prog.varReadable ·) && Tryz.f7.resultTypes.all (fun t=>Tryz.prog.readableRec t && decide (t< Tryz.prog.types.size)) && (Rows.ruleOnRow.ifacesOut==Tryz.f7.resultTypes.toList.any (Tryz.prog.ifacesRec ·)) && (Rows.ruleOnRow.loopsOut==Tryz.f7.resultTypes.toList.any (Tryz.prog.loopsFrom ·)) && (Rows.ruleOnRow.plainKeys==Tryz.prog.plainKeys) && Rows.ruleOnRow.shortTexts.isNone)=true:=by kernel_rfl
theorem rv_:((Rows.ruleOnRow.veiled==(Tryz.f7.params.toList++Rows.ruleOnSpec.plain.varTypes Tryz.prog++Tryz.f7.resultTypes.toList).any (Tryz.prog.veiledRec ·)) && Rows.ruleOnRow.veiledFits Tryz.prog Tryz.f7.params.toList (Tryz.f7.params.toList++Rows.ruleOnSpec.plain.varTypes Tryz.prog++Tryz.f7.resultTypes.toList))=true:=by kernel_rfl
theorem rq_:Rows.ruleOnRow.wfByText (OpenSpec.ofChange Rows.ruleOnSpec)=true:=by kernel_rfl
theorem rH_:false=Rows.ruleOnRow.goesBy Tryz.prog:=by kernel_rfl
theorem ruleOn_fn:Tryz.prog.funcNamed Rows.ruleOnRow.func=some 7:=by kernel_rfl
theorem rF_:decide (Tryz.f7.isInstance Tryz.prog Rows.ruleOnRow.origin Rows.ruleOnRow.targs)=true:=by kernel_rfl
theorem rr_:(Tryz.f7.params.toList.all fun u=>!Tryz.prog.wantsStandIn u)=true:=by kernel_rfl
theorem rC_:mkF Tryz.prog Tryz.f7 Rows.ruleOnRow=true:=by kernel_rfl
theorem rE_:(Rows.ruleOnRow.lifted==Tryz.prog.liftsFinal)=true:=by rw[all_lf];kernel_rfl
theorem kV_:joinedFacts Tryz.prog 7 Tryz.f7 Rows.ruleOnSpec Rows.ruleOnRow=true:=
 ss_ rs_ qa_ all_mr ry_ rA_ rx_ rG_ rw_ rz_ ru_ rB_ rD_ rt_ all_sh all_me rE_ rC_ rv_
theorem nE_:Tryz.f7.isWrapper Tryz.prog Rows.ruleOnRow.wrapper Rows.ruleOnRow.mainSum:=by
 unfold Func.isWrapper;first|(rw[if_pos (by decide+kernel)];kernel_rfl)|(rw[if_neg (by decide+kernel)];exact⟨rfl,rfl⟩)
end Go.Proofs.YtdjfjpeoddmamaaGreatDoor
namespace Go.Proofs.YtdjfjpeoddmamaaGreatDoor
open Go.Abs Go.RowKit
theorem tab_glb:(Tryz.prog).globalNamed "internal/strconv.uint64pow10" =some GT:=by kernel_rfl
theorem tab_of{n1 n2:String}{a b:DataW Unit}{W:World}(h:laidMet Tryz.prog [(n1,a),(n2,b),("internal/strconv.uint64pow10",Lib.tabData .u64 Lib.pow10Tab)] W):TabW W:=by
 obtain⟨ps,⟨g1,t1,c1,u1,p1,q1,_,_,_,_,⟨g2,t2,c2,u2,p2,q2,_,_,_,_,⟨g,t,cs,fuel,p,q,hg,ht,hv,hd,_,_⟩,_⟩,_⟩,_,_⟩:=h;obtain rfl:=Option.some.inj (tab_glb.symm.trans hg);have hT:((Tryz.prog).globals[GT]?).map (·.type)=some 351:=by kernel_rfl
 have hu:(Tryz.prog).underlying 351=some (.array 20 235):=by kernel_rfl
 have he:(Tryz.prog).underlying 235=some (.int .u64):=by kernel_rfl
 have hce:(Tryz.prog).cellsOf 235=1:=by kernel_rfl
 have hct:(Tryz.prog).cellsOf 351=20:=by kernel_rfl
 obtain rfl:=Option.some.inj (hT.symm.trans ht);have hc:=Lib.cells_of_tab (zs:=Lib.pow10Tab) hu he hce hct hd;unfold World.var? at hv;rw[tab_glb] at hv;have hv':(match W.heap[GT]? with|some (.cells cs _ _)=>some cs|_=>none)=some cs:=hv;cases hh:W.heap[GT]? with
 |none=>rw[hh] at hv';cases hv'
 |some o=>
  rw[hh] at hv';cases o with
  |cells a b c=>
   obtain rfl:a=cs:=Option.some.inj hv';refine⟨b,c,?_⟩;rw[hh]
   have:a=tabA:=by
    unfold tabA;rw[←hc]
   rw[this]
  |_=>cases hv'
end Go.Proofs.YtdjfjpeoddmamaaGreatDoor
namespace Go.Proofs.YtdjfjpeoddmamaaGreatDoor
open Go.Abs Go.ChangeAt Go.ChangeShapes Go.RowKit Go.WideShapes
theorem own:ownKnob Tryz.prog.godebug=none:=by kernel_rfl
theorem und4:Tryz.prog.underlying 4=some .bool:=by kernel_rfl
abbrev laid3:List (String×DataW Unit):=Rows.ruleOnRow.laid
theorem door_met(os:Os)(args:Array Value):laidMetH Tryz.prog laid3 ((World.doorLaid Tryz.prog 24 os).forCall (fun _ _=>0) ⟨#[],args,[]⟩).memory:=
 laidMetH_of_parts3 (fuel:=8) (laidMet_of_run' 8 (by kernel_rfl) (by kernel_rfl)) (by kernel_rfl) (by kernel_rfl)
set_option maxRecDepth 100000 in
theorem kU_(os:Os)(started:os.Started)(H:Type)(enc:TypeId×Value→H):
    ReturnsInHanded {} Tryz.checked os 7 .any (fun w args=>(Rows.ruleOnSpec.pre enc Tryz.prog Tryz.f7 [] false w args∧laidMetH Tryz.prog laid3 w)∧sizedMet enc Tryz.prog Tryz.f7 (OpenSpec.ofChange Rows.ruleOnSpec) false w args)
     (Rows.ruleOnSpec.post enc Tryz.prog Tryz.f7 false true false false):=by
 refine returnsInHanded_of_change_and (C:=Tryz.checked) (X:=fun w _=>laidMetH Tryz.prog laid3 w) (fun _ _ _ hh h=>h.of_heap hh) own started (by kernel_rfl) Tryz.func7
  (ChangeSpec.witness_shaped (enc:=enc) (C:=Tryz.checked) (os:=os) (X:=fun w _=>laidMetH Tryz.prog laid3 w) false (World.doorLaid Tryz.prog 24 os) #[(.agg #[.int .u8 0,.int .i64 0,.int .i64 0,.int .u8 0,.int .i64 0,.int .i64 0,.int .u8 0,.int .i64 0,.int .i64 0,.int .i64 0,.slice none 0 0,.bool false,.bool false,.int .i64 0,.int .i64 0,.int .u8 0,.int .i64 0,.int .i64 0,.int .u8 0]),.slice none 0 0,.slice none 0 0] 8 rfl (World.shaped_of_RefB (by kernel_rfl) (by kernel_rfl)) (by kernel_rfl) (by kernel_rfl) (by kernel_rfl) (door_met os _)) ?_
 intro W base args ds gs before hval0 hW _ _ hX _;have hval:∀(j:Nat) t v,Tryz.f7.params[j]?=some t→args[j]?=some v→Value.okWide Tryz.prog W .any base t v:=hval0;have hW':=hW;obtain⟨p,q,hA0,hV,rfl,hfz,hnd⟩:=hW;have hA:DataW.TrodAll enc Tryz.prog W 0 (fun _=>true) true Tryz.f7.params.toList args.toList ds p:=hA0;rw[Tryz.params7] at hA hval;obtain⟨v0,vs0,d0,ds0,p0,q0,hargs,rfl,rfl,h0,r0⟩:=trodAll_cons hA;obtain⟨v1,vs1,d1,ds1,p1,q1,rfl,rfl,rfl,h1,r1⟩:=trodAll_cons r0;obtain⟨v2,vs2,d2,ds2,p2,q2,rfl,rfl,rfl,h2,r2⟩:=trodAll_cons r1;obtain⟨rfl,rfl,rfl⟩:=trodAll_nil r2;obtain rfl:args= #[v0,v1,v2]:=by cases args;simp_all
 obtain⟨rfl,rfl⟩:=trodVars_none hV;obtain⟨a1,len1,cap1,rfl⟩:=okWide_slice tyS (hval 1 26 v1 rfl rfl);obtain⟨a2,len2,cap2,rfl⟩:=okWide_slice tyS (hval 2 26 v2 rfl rfl);have lt0:∀x∈p0,x.block< W.heap.size:=by obtain⟨m,hm⟩:=h0;exact DataW.trod_lt m _ _ _ hm
 have lt1:∀x∈p1,x.block< W.heap.size:=by obtain⟨m,hm⟩:=h1;exact DataW.trod_lt m _ _ _ hm
 have lt2:∀x∈p2,x.block< W.heap.size:=by obtain⟨m,hm⟩:=h2;exact DataW.trod_lt m _ _ _ hm
 obtain⟨l0,o0,g0⟩:=loP_of (hval 0 75 v0 rfl rfl) h0;obtain⟨l1,o1,g1⟩:=nF_ h1;obtain⟨l2,o2,g2⟩:=nF_ h2;clear hA0 hval0;refine((s1_ l0 l1 l2 o0.1 o0.2 o1 (rvlen g1) o2).calls (fun _=>False) W [v0,.slice a1 len1 cap1,.slice a2 len2 cap2] ⟨fun _ h=>h.elim,fun h=>h,tab_of (by rw[MakeChecks.laidMetH_plain _ _ _ (by kernel_rfl)] at hX;exact hX)⟩ ⟨_,_,rfl,g0,⟨_,_,rfl,g1,⟨_,_,rfl,g2,rfl⟩⟩⟩).mono fun e W' ⟨y,he,hy,bel⟩=>?_;have hy':y= .bool true:=hy;subst he;subst hy';exact⟨_,rfl,_,_,_,[],_,[],hW',trodAll_mk1 (shut_bool und4 _),(trodAll_cons_mk (Below.trod qa_ (by kernel_rfl) (of_decide_eq_true (by kernel_rfl)) h0 bel lt0) (trodAll_cons_mk (Below.trod qa_ (by kernel_rfl) (of_decide_eq_true (by kernel_rfl)) h1 bel lt1) (trodAll_cons_mk (Below.trod qa_ (by kernel_rfl) (of_decide_eq_true (by kernel_rfl)) h2 bel lt2) trodAll_mk0))),rfl,bel.frame _,fun h=>by cases h⟩
theorem qi_:Rows.RuleOnSaid:=
 OpenClaim.holds_of_wide 7 Tryz.f7 rfl rfl rfl rfl rfl rfl rfl ⟨rfl,rfl,rfl,rfl,rfl⟩ rfl rfl rfl rfl rfl ruleOn_fn Tryz.func7 kV_
  (of_decide_eq_true rF_) nE_
  (fun os started H enc _=>kU_ os started H enc)
theorem ruleOn_card:Rows.RuleOnCardSaid:=
 Claim7.holds_tied_plain_at .later [] [.data,.data,.data] true (true, "854b0172178e1658f68fdbd1af1c5e470e78f85c99764663bd0791e63856cf6f") false
  qi_ (fun _ h=>by cases h) rq_ (fun _ h=>by cases h) ruleOn_row_tie rfl ⟨rfl,rfl⟩ all_mi rfl
  (fun f fn hf hfn=>by
   obtain rfl:f=7:=Option.some.inj (ruleOn_fn.symm.trans hf)|>.symm;obtain rfl:fn=Tryz.f7:=(Option.some.inj (Tryz.func7.symm.trans hfn)).symm
   exact⟨all_lk,fun j t ht=>by
    have hm:t∈Tryz.f7.params.toList:=by simpa using Array.mem_of_getElem? ht
    exact(show Tryz.prog.wantsStandIn t=false by simpa using List.all_eq_true.1 rr_ t hm)⟩)
  rH_
#print axioms ruleOn_card
end Go.Proofs.YtdjfjpeoddmamaaGreatDoor
