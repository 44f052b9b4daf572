/- Part Y34 of the proof. -/
import Derived.Test.YtjmkjicckobojaaGreatDoorY33
set_option linter.all false
namespace Go.Proofs.YtjmkjicckobojaaGreatDoor
open Go.Abs
set_option maxRecDepth 20000
set_option maxHeartbeats 4000000
theorem bdM_svM{A:Nat->Nat->Rat}{l:Rat}{r:Lq}{n s:Nat}(hq:∀i j,i< n->j< n->qs (A i j)+qs l+2<=s)(hr:∀i,i< n->qs (coP r i)<=s):bdM (svM A l (λt=>coP r t) n) n s:=λi j a c=>by
 unfold svM;by_cases e1:j=n;rw[if_pos e1];exact hr i a;rw[if_neg e1];have f:=hq i j a ω;have d:=cP (A i j) l;split;have b:=gT (-(A i j* l)) 1;rw[fa] at b;have e:qs 1<=1:=δ
 omega;rw[fa];omega
theorem DF(A:Nat->Nat->Rat)(l:Rat)(r:Lq)(n s:Nat)(hn:n<=25)(hrl:r.length=n)(hq:∀i j,i< n->j< n->qs (A i j)+qs l+2<=s)(hr:∀i,i< n->qs (coP r i)<=s)(hs:slB s n<=100000000000):
    XSpec Tryz.prog 113 [.lsl 1 0 n (some n) 1,.agg (qC l),.arr (pE r)] (mzH 3 61 42 (mzO 3 (λ_=>n) (λx=>x) n) (fiL A n n)) 40 (syV n (slM (svM A l (λt=>coP r t) n) n n)) [] 1:=by
 have f:s<=100000000000:=fo (jI (s:=s) (mN n)) hs;have d:=bdM_svM hq hr;refine xF A l r n (slB s n) hn hrl hs (λi j a b=>by have:=hq i j a b;omega) (λi a=>?_) λc e i j a b=>fo (FE d c e i j a b) (jI e);have h:=hq i i a a;have g:=cP (A i i) l;rw[fa];omega
theorem tk00(k:Ke)(l:Rat)(g:Lq):eqC k l g++[.arr [],bln false,.arr [],.arr [],bln false,.arr []]=tkC k l g 0 0:=by unfold tkC;rw[spC00]
theorem Ks{sz TS TQ:Nat}{o:Lc}{L:List Lc}:(ap (mzH sz TS TQ o L) 0).isSome=false:=by
 cases h:ap (mzH sz TS TQ o L) 0 with
 |none=>rfl
 |some B=>
  rcases pY.1 (iA h) with h|h
  cases h;obtain⟨k,e,_,a,_⟩:=qE L 2 0 B h;omega
theorem CvL.app{r:Ren}{hp hp':Hq}:∀{xs ys xs' ys':La},CvL r hp hp' xs ys->CvL r hp hp' xs' ys'->CvL r hp hp' (xs++xs') (ys++ys')
 |[],_,_,_,h,h'=>by cases h;exact h'
 |_::_,_,_,_,⟨_,_,e,h1,h2⟩,h'=>by subst e;exact ai h1 (CvL.app h2 h')
theorem L4{r:Ren}{hp hp':Hq}(h:Shr r hp hp')(k:Ke)(l:Rat)(g:Lq):CvL r hp hp' (eqC k l g++[.emp,bln false,.emp,.emp,bln false,.emp]) (eqC k l g++[.arr [],bln false,.arr [],.arr [],bln false,.arr []]):=
 CvL.app (CvL.clo h (bt k l g)) (ai (Cv.emp _) (ai (ao h (ah _)) (ai (Cv.emp _) (ai (Cv.emp _) (ai (ao h (ah _)) (ai (Cv.emp _) av))))))
structure OkNo (k:Ke)(l:Rat)(g x v:Lq)(s:Nat):Prop where
 ke:qw k
 dg:a8 g<=20
 gl:g.length<=1099511627776
 xl:x.length<=25
 vl:v.length=x.length
 a:∀i j,i< x.length->j< x.length->OkAt k (coP x i) (coP x j)/\qs (atK k (coP x i) (coP x j))+qs (coP v j)<=549755813888
 e:∀q∈x,eg g q
 q:∀i j,i< x.length->j< x.length->qs (noA k x v i j)+qs l+2<=s
 r:∀i,i< x.length->qs (ag g (coP x i))<=s
 s:slB s x.length<=100000000000
def noM(k:Ke)(l:Rat)(g x v:Lq):Mx×Ln:=slM (svM (noA k x v) l (λt=>coP (x.map (ag g)) t) x.length) x.length x.length
theorem E2(k:Ke)(l:Rat)(g x v:Lq)(s:Nat)(h:OkNo k l g x v s):
    FS 39 [.agg (eqC k l g),.arr (pE x),.arr (pE v)] (if (noM k l g x v).2.length< x.length then .tup [.arr (pE []),i64 14] else .tup [.arr (pE (uo (noM k l g x v).1 x.length (noM k l g x v).2)),i64 0]):=by
 have L:=wo k l g h.ke h.dg h.gl;have p:(pE x).length=x.length:=by simp[pE]
 have E:(pE v).length=v.length:=by simp[pE]
 have f:=h.xl;have o:=h.vl;have K:=(xG (noA k x v) x.length 112 [bTk k l g 0 0,bP x,bP v] f (ac (cj k l g 0 0) (ac (b9 x) (ac (b9 v) af))) λi j n y=>CB k l g x v i j n y o ω (h.a i j n y).1 (h.a i j n y).2).x;have M:=Ll x 35 [.arr (pE g)] (ag g) (ac (aw g) af) ω λq F=>fg g q (h.e q F)
 have C:=DF (noA k x v) l (x.map (ag g)) x.length s f ψ h.q (λi n=>by
  have e:coP (x.map (ag g)) i=ag g (coP x i):=by
   unfold coP;rw[jH,jH];simp[n]
  rw[e];exact h.r i n) h.s
 have H:=qZ (noM k l g x v).1 x.length (noM k l g x v).2 (eA _ _ _) f;change XSpec _ _ _ _ _ (syV x.length (noM k l g x v)) _ _ at C;have A:Closed (syV x.length (noM k l g x v)):=fH _ _ _;have N:(lvE (noM k l g x v).2).length=(noM k l g x v).2.length:=jm _;have D:(noM k l g x v).2.length<=x.length:=(eA _ _ _).len2;have O:∀c∈eqC k l g++[.arr [],bln false,.arr [],.arr [],bln false,.arr []],Closed c:=by rw[tk00];exact dT k l g 0 0
 refine f_n Tryz.func39 ?_ ?_;exact ac (aD (bt k l g)) (ac (aw x) (ac (aw v) af));refine r_z 5 ?_;refine r_z 5 ?_;refine ae (r_c 14 (L) ?_);refine d_5 ?_;refine bF rfl rfl rfl (.bin rfl rfl (vF cx ((by simp[o])))) rfl rfl ?_;refine d_z ?_;refine cF (an (r_z 3 ?_));refine AWp.ent (st':=⟨[(4,bP x),(5,bP v),(8,.aptr [eqC k l g++[.arr [],bln false,.arr [],.arr [],bln false,.arr []]] 0 0),(9,i64 x.length)],[],1,52⟩) ?_ ?_;refine s_x [] (λhs=>?_) (λhs=>?_)
 ·repeat' (first|exact aV|refine aA rfl ?_ ?_|exact Cv.boxp hs rfl (aR rfl) rfl (ac (aw x) af)|exact Cv.boxp hs rfl (aR rfl) rfl (ac (aw v) af)|exact Cv.sealp hs rfl (aR rfl) Pb (CvLL.cons (L4 hs k l g) CvLL.nil)|(refine Cv.loE hs ?_ (ah _);simp[i64,p];done)|exact aZ)
 ·repeat' (first|exact aF|refine h_c ?_ ?_|exact bG|refine aB ?_|exact av|refine ai ?_ ?_|exact Cv.boxp hs rfl (aR rfl) rfl (ac (aw x) af)|exact Cv.boxp hs rfl (aR rfl) rfl (ac (aw v) af)|exact Cv.sealp hs rfl (aR rfl) Pb (CvLL.cons (L4 hs k l g) CvLL.nil)|(refine Cv.loE hs ?_ (ah _);simp[i64,p];done)|exact aZ)
 rw[show AV.aptr [eqC k l g++[.arr [],bln false,.arr [],.arr [],bln false,.arr []]] 0 0=bTk k l g 0 0 by rw[tk00];rfl];generalize noM k l g x v=m at *
 have B:∀t z,_root_.Go.Abs.look ([(4,bP x),(8,bTk k l g 0 0),(9,i64 x.length)]:Fr) t=some z->Closed z:=λt z d=>by
  rw[b8] at d;unfold upd at d;split at d;cases d;exact b9 x;rw[b8] at d;unfold upd at d;split at d;cases d;exact cj k l g 0 0;rw[b8] at d;unfold upd at d;split at d;cases d;exact ah _;cases d
 have w:∀t z,_root_.Go.Abs.look ([(4,bP x),(8,bTk k l g 0 0),(9,i64 x.length)]:Fr) t=some z->t< 1000:=λt z d=>by
  rw[b8] at d;unfold upd at d;split at d;omega;rw[b8] at d;unfold upd at d;split at d;omega;rw[b8] at d;unfold upd at d;split at d;omega;cases d
 refine ae (AWp.regX (fr2:=[(4,bP x),(8,bTk k l g 0 0),(9,i64 x.length),(31,i64 x.length),(32,.clos 112 [] [bTk k l g 0 0,bP x,bP v])]) (hp2:=[]) (nx2:=1) (fr3:=[(4,bP x),(8,bTk k l g 0 0),(9,i64 x.length)]) 2 rfl rfl rfl rfl rfl rfl ?_ rfl rfl rfl K ?_ ?_ ?_);refine o_0 (.move rfl) ?_;refine o_0 (.makeFunc rfl rfl) ?_;refine aq ?_;refine s_y [] (λhs=>?_) (λhs=>?_)
 ·repeat' (first|exact aV|refine aA rfl ?_ ?_|exact ao hs (cj k l g 0 0)|exact ao hs (b9 x)|exact ao hs (aX af (ac (cj k l g 0 0) (ac (b9 x) (ac (b9 v) af))))|exact aZ)
 ·repeat' (first|exact aF|refine h_c ?_ ?_|exact bG|refine aB ?_|exact av|refine ai ?_ ?_|exact ao hs (cj k l g 0 0)|exact ao hs (b9 x)|exact ao hs (aX af (ac (cj k l g 0 0) (ac (b9 x) (ac (b9 v) af))))|exact aZ)
 intro t z d;have Q:=d;rw[b8] at d;unfold upd at d;split at d
 ·rename_i e;subst e;cases d;exact⟨rfl,b9 x⟩
 rw[b8] at d;unfold upd at d;split at d
 ·rename_i e;subst e;cases d;exact⟨rfl,cj k l g 0 0⟩
 rw[b8] at d;unfold upd at d;split at d
 ·rename_i e;subst e;cases d;exact⟨rfl,ah _⟩
 cases d;exact λt z d=>(w t z d);refine o_0 (.assign rfl) ?_;refine aq ?_;refine ae (AWp.regB (fr:=[(4,bP x),(8,bTk k l g 0 0),(9,i64 x.length)]) (v:= .lsl 1 0 x.length (some x.length) 1) 10 10 ba ?_ (B) (Ks) (C) (A) rfl rfl rfl rfl ?_);refine SEntT.mz (λx=>x) _ _ _ χ rfl (λi j _ _ _ _ e=>e) rfl rfl ?_ ?_ ?_;intro J e u;obtain⟨G,rfl⟩:=nY u;exact⟨dq (fh G),aK _⟩;exact λhs=>og ω λJ u=>by rw[dq (fh u)];rfl
 exact λhs=>aA rfl (Cv.sl rfl rfl rfl) (aA rfl (ao hs (b9 x)) (aA rfl (ao hs (cj k l g 0 0)) (aA rfl (ao hs (ah _)) aV)));intro R;refine AY.op0 (.move rfl) rfl rfl ?_;refine AY.op0 (.fieldAddr_a rfl TF.h δ) rfl rfl ?_;refine AY.op0 (.fieldAddr_a rfl TF.h δ) rfl rfl ?_;refine AY.op0 (.load_a rfl rfl TG.h TS.h (nle rfl)) rfl rfl ?_;refine AY.op0 (.load_a1 rfl rfl TG.h rfl) rfl rfl ?_;refine AY.op0 (.fieldAddr_a rfl TF.h δ) rfl rfl ?_;refine AY.op0 (.fieldAddr_a rfl TF.h δ) rfl rfl ?_;refine AY.op0 (.load_a1 rfl rfl TG.h rfl) rfl rfl ?_;refine AY.op0 (.makeFunc rfl rfl) rfl rfl ?_;refine AY.op0 (.call rfl rfl rfl (M)) rfl rfl ?_;refine AY.sp rfl rfl (kB.b rfl (ArgsV.own rfl (ArgsV.clo rfl (aD (bi l)) (ArgsV.clo rfl (aw _) ArgsV.nil))) rfl) ?_;refine AY.op1 (.alloc TZ.h) rfl rfl ?_;refine AY.on1 (.store rfl rfl rfl rfl rfl rfl TS.h (nle rfl)) rfl ?_;refine AY.nil ⟨by kernel_rfl,?_⟩;by_cases hlt:m.2.length< x.length;rw[if_pos hlt];refine ae (q_z 5 ?_);refine cT (r_z 2 ?_);refine ak (Fin.many ⟨_,_,rfl,rfl,⟨_,_,rfl,rfl,rfl⟩⟩ (nle rfl) ?_);exact ai (Cv.emp _) (ai (ao aE (ah _)) av);rw[if_neg hlt];refine ae (q_z 5 ?_);refine cF (an (r_c 4 (H) ?_));refine a_z ?_;refine ak (Fin.many ⟨_,_,rfl,rfl,⟨_,_,rfl,rfl,rfl⟩⟩ (nle rfl) ?_);exact ai (ao aE (aw _)) (ai (ao aE (ah _)) av)
structure TmK (k:Ke):Prop where
 l:k.length<=3
 n:∀p∈k,p.1.length<=4/\p.2.length<=4
 b:∀p∈k,bdL p.1 20/\bdL p.2 20
theorem yx{p:Lq}{x:Rat}{n:Nat}(hl:p.length<=n)(hb:bdL p 20)(hx:qs x<=20):qs (ag p x)<=n* 41+1:=by
 have a:=jP hx hb;have b:p.length* (20+20+1)<=n* 41:=mC _ hl;omega
theorem ok_ev{p:Lq}{x:Rat}(hl:p.length<=40)(hb:bdL p 20)(hx:qs x<=20):eg p x:=by
 have a:mxL p<=20:=mxL_le hb ω;have b:p.length* (mxL p+qs x+1)<=40* 41:=vj hl ω;exact⟨ω,ω⟩
theorem MG{k:Ke}(h:TmK k){x y:Rat}(hx:qs x<=20)(hy:qs y<=20):∀i,i<=k.length->qs (atS k x y i)<=332* i+1
 |0,_=>by rw[atS_0];exact(by decide:qs 0<=332* 0+1)
 |i+1,hi=>by
  obtain⟨p,hp⟩:∃p,k[i]?=some p:=⟨_,eT ω⟩;have a:=mc hp;have e:=MG h hx hy i ω;have c:=yx (h.n p a).1 (h.b p a).1 hx;have g:=yx (h.n p a).2 (h.b p a).2 hy;have d:=cP (ag p.1 x) (ag p.2 y);have f:=gT (atS k x y i) (ag p.1 x* ag p.2 y);rw[atS_s hp];omega
theorem A8{k:Ke}(h:TmK k){x y:Rat}(hx:qs x<=20)(hy:qs y<=20):qs (atK k x y)<=997:=by
 have a:=MG h hx hy k.length (ir _);have b:=h.l;show qs (atS k x y k.length)<=997;omega

theorem EP(a b:Rat)(ha:qs a<=20)(hb:qs b<=20):FS 21 [.agg (rC (rq a)++rC (rq b))] (bln (decide (a<=b))):=by
 have d:=fs_rCmp (rq a) (rq b) (zn _) (zn _) (by show qs a+qs b<=_;omega);have f:∀c∈rC (rq a)++rC (rq b),Closed c:=λc d=>(n7.1 d).elim (gO _ c) (gO _ c)
 have e:(decide (eD a b<=0))=decide (a<=b):=by
  unfold eD;by_cases h1:a< b;rw[if_pos h1,decide_eq_true (show a<=b by grind)];rfl;rw[if_neg h1];by_cases h2:a=b;rw[if_pos h2,decide_eq_true (show a<=b by grind)];rfl;rw[if_neg h2,decide_eq_false (show¬a<=b by grind)];rfl
 rw[<-e];refine f_c Tryz.func21 ?_;refine r_z 2 ?_;refine r_c 7 (d) ?_;refine a_z ?_;exact ak (t_e (ah _))
theorem ke_arr(l:List iu)(ho:∀t∈l,zO t)(hl:l.length<=9223372036854775807):∃K1 K2 b,FS 5 [.arr (twR l)] (.tup [.arr K1,.arr K2,bln b])/\Closed (.arr K1)/\Closed (.arr K2)/\(b=true->K1=kE (keM l)/\K2=keR (keM l)/\ur l=true):=by
 have h:=E3 l ho hl;unfold keV at h;cases e:ur l with
 |true=>rw[e] at h;exact⟨_,_,true,h,a6 _,gz _,λ_=>⟨rfl,rfl,rfl⟩⟩
 |false=>rw[e] at h;exact⟨_,_,false,h,a6 _,gz _,λh=>by cases h⟩
theorem ri_arr(l:List fO)(ho:okR l)(hl:l.length<=9223372036854775807):∃k1 k2 b,FS 74 [.arr (nR l)] (.tup [.arr k1,.arr k2,bln b])/\Closed (.arr k1)/\Closed (.arr k2)/\(b=true->k1=pE (nL l)/\k2=rE (rP (nL l))/\l.length<=40/\(gP l 5=true\/20< a8 (nL l))):=by
 have h:=Iu l ho hl;by_cases e:40< l.length;rw[if_pos e] at h;exact⟨_,_,false,h,aw _,fJ _,λh=>by cases h⟩;rw[if_neg e] at h;exact⟨_,_,_,h,aw _,fJ _,λh=>⟨rfl,rfl,ω,by simpa using h⟩⟩
structure Posed (l:List iu)(ar br cr:fO)(gr:List fO):Prop where
 va:vaB (keM l)=true
 t:TmK (keM l)
 ok:qw (keM l)
 dg:a8 (nL gr)<=20
 bg:bdL (nL gr) 20
 lg:(nL gr).length<=5
 qa:qs (nV ar)<=20
 qb:qs (nV br)<=20
 qc:qs (nV cr)<=20
 ab:nV ar<=nV br
theorem K9(l:List iu)(ar br cr:fO)(gr:List fO)(ho:∀t∈l,zO t)(hll:l.length<=9223372036854775807)(ha:okN ar)(hb:okN br)(hc:okN cr)(hg:okR gr)(hgl:gr.length<=9223372036854775807):
    ∃(k1 g1:Lc) (b:Bool),FS 25 [.arr (twR l),.agg (nuC ar.1 ar.2.1 ar.2.2++nuC br.1 br.2.1 br.2.2),.agg (nuC cr.1 cr.2.1 cr.2.2),.arr (nR gr)] (.tup [.agg (.arr k1::(qC (nV cr)++[.arr g1])),.agg (spC (nV ar) (nV br)),bln b])/\Closed (.arr k1)/\Closed (.arr g1)/\(b=true->k1=kE (keM l)/\g1=pE (nL gr)/\Posed l ar br cr gr):=by
 obtain⟨k1,R,O,n,i,H,E⟩:=ke_arr l ho hll;obtain⟨g1,Q,K,f,k,M,y⟩:=ri_arr gr hg hgl;have j:=uS [ar,br,cr] 3 ψ δ;have s:=E5 ar.1 ar.2.1 br.1 br.2.1 ar.2.2 br.2.2 ha.1 ha.2.1 ha.2.2 hb.1 hb.2.1 hb.2.2;have b2:=rp cr.1 cr.2.1 cr.2.2 hc.1 hc.2.1 hc.2.2;have q:∀c∈nuC ar.1 ar.2.1 ar.2.2++nuC br.1 br.2.1 br.2.2,Closed c:=λc hc=>(n7.1 hc).elim (fQ ar c) (fQ br c);have d:∀c∈ .arr k1::(qC (nV cr)++[.arr g1]),Closed c:=ac i λc hc=>(n7.1 hc).elim (bi _ c) (ac k af c)
 have u:∀b:Bool,FS 25 [.arr (twR l),.agg (nuC ar.1 ar.2.1 ar.2.2++nuC br.1 br.2.1 br.2.2),.agg (nuC cr.1 cr.2.1 cr.2.2),.arr (nR gr)] (.tup [.agg (.arr k1::(qC (nV cr)++[.arr g1])),.agg (spC (nV ar) (nV br)),bln b])->(b=true->k1=kE (keM l)/\g1=pE (nL gr)/\Posed l ar br cr gr)->
  ∃(k1 g1:Lc) (b:Bool),FS 25 [.arr (twR l),.agg (nuC ar.1 ar.2.1 ar.2.2++nuC br.1 br.2.1 br.2.2),.agg (nuC cr.1 cr.2.1 cr.2.2),.arr (nR gr)] (.tup [.agg (.arr k1::(qC (nV cr)++[.arr g1])),.agg (spC (nV ar) (nV br)),bln b])/\Closed (.arr k1)/\Closed (.arr g1)/\(b=true->k1=kE (keM l)/\g1=pE (nL gr)/\Posed l ar br cr gr):=λb x G=>
  ⟨k1,g1,b,x,i,k,G⟩
 cases O with
 |false=>
  refine u false ?_ (λh=>by cases h);refine f_n Tryz.func25 ?_ ?_;exact ac (dx l) (ac (aD q) (ac (aD (fQ cr)) (ac (aP (c9 gr)) af)));refine r_z 5 ?_;refine r_c 9 (n) ?_;refine a_z ?_;refine r_c 9 (f) ?_;refine a_z ?_;refine r_c 9 (s) ?_;refine a_z ?_;refine r_c 9 (b2) ?_;refine a_z ?_;refine r_z 6 ?_;refine ae (r_d ba 28 ?_);refine d_8 ?_;refine d_8 ?_;refine d_8 ?_;refine d_4 ?_;refine aq (n_k ?_);refine ak (Fin.many ⟨_,_,rfl,⟨_,_,_,_,_,rfl,rfl,rfl,.inl ⟨TG.h,_,TS.h,nle rfl,rfl⟩⟩,⟨_,_,rfl,⟨_,_,_,_,_,rfl,rfl,rfl,.inl ⟨TG.h,_,TS.h,nle rfl,rfl⟩⟩,⟨_,_,rfl,rfl,rfl⟩⟩⟩ (nle rfl) ?_);exact ai (ao aE (aD d)) (ai (ao aE (aD (bh _ _))) (ai (ao aE (ah _)) av))
 |true=>
 cases K with
 |false=>
  refine u false ?_ (λh=>by cases h);refine f_n Tryz.func25 ?_ ?_;exact ac (dx l) (ac (aD q) (ac (aD (fQ cr)) (ac (aP (c9 gr)) af)));refine r_z 5 ?_;refine r_c 9 (n) ?_;refine a_z ?_;refine r_c 9 (f) ?_;refine a_z ?_;refine r_c 9 (s) ?_;refine a_z ?_;refine r_c 9 (b2) ?_;refine a_z ?_;refine r_z 6 ?_;refine ae (r_d ba 28 ?_);refine d_8 ?_;refine d_8 ?_;refine d_8 ?_;refine d_4 ?_;refine aq (n_k ?_);refine ak (Fin.many ⟨_,_,rfl,⟨_,_,_,_,_,rfl,rfl,rfl,.inl ⟨TG.h,_,TS.h,nle rfl,rfl⟩⟩,⟨_,_,rfl,⟨_,_,_,_,_,rfl,rfl,rfl,.inl ⟨TG.h,_,TS.h,nle rfl,rfl⟩⟩,⟨_,_,rfl,rfl,rfl⟩⟩⟩ (nle rfl) ?_);exact ai (ao aE (aD d)) (ai (ao aE (aD (bh _ _))) (ai (ao aE (ah _)) av))
 |true=>
 cases et:gP [ar,br,cr] 3 with
 |false=>
  rw[et] at j;refine u false ?_ (λh=>by cases h);refine f_n Tryz.func25 ?_ ?_;exact ac (dx l) (ac (aD q) (ac (aD (fQ cr)) (ac (aP (c9 gr)) af)));refine r_z 5 ?_;refine r_c 9 (n) ?_;refine a_z ?_;refine r_c 9 (f) ?_;refine a_z ?_;refine r_c 9 (s) ?_;refine a_z ?_;refine r_c 9 (b2) ?_;refine a_z ?_;refine r_z 6 ?_;refine ae (r_d ba 28 ?_);refine d_8 ?_;refine d_4 ?_;refine AR.op1y rfl rfl rfl (.buildSlice te_34.h TZ.h rfl δ rfl rfl rfl (by simp[nuC])) rfl rfl ?_;refine AR.op1y rfl rfl rfl (.callS1 rfl rfl rfl (.shut rfl d_n (.keep (.nil))) rfl (j)) rfl rfl ?_;refine d_8 ?_;refine d_6 ?_;refine aq (n_k ?_);refine ak (Fin.many ⟨_,_,rfl,⟨_,_,_,_,_,rfl,rfl,rfl,.inl ⟨TG.h,_,TS.h,nle rfl,rfl⟩⟩,⟨_,_,rfl,⟨_,_,_,_,_,rfl,rfl,rfl,.inl ⟨TG.h,_,TS.h,nle rfl,rfl⟩⟩,⟨_,_,rfl,rfl,rfl⟩⟩⟩ (nle rfl) ?_);exact ai (ao aE (aD d)) (ai (ao aE (aD (bh _ _))) (ai (ao aE (ah _)) av))
 |true=>
 rw[et] at j;obtain⟨rfl,rfl,v⟩:=E rfl;obtain⟨rfl,rfl,w,C⟩:=y rfl
 have z:okR [ar,br,cr]:=λr f=>by
  simp only[pY,NZ,or_false] at f;rcases f with rfl|rfl|rfl
  exact ha;exact hb;exact hc
 obtain⟨A,_⟩:=uy et z;have qa:qs (nV ar)<=20:=A _ (by simp[nL]);have qb:qs (nV br)<=20:=A _ (by simp[nL]);have qc:qs (nV cr)<=20:=A _ (by simp[nL]);have D:(nL gr).length<=40:=by simpa[nL] using w
 have e:a8 (nL gr)<=20->bdL (nL gr) 20/\(nL gr).length<=5:=λh=>by
  rcases C with x|x
  exact uy x hg;omega
 obtain⟨L,F,N⟩:=KD ho v;have B:∀p∈keM l,p.1.length<=1099511627776/\p.2.length<=1099511627776:=λp hp=>by have:=F p hp;omega
 have a:=Lr (keM l) (nL gr) L (λp hp=>by have:=F p hp;omega) ω;have o:=EP (nV ar) (nV br) qa qb;cases eb:(!vaB (keM l)||decide (20< a8 (nL gr))) with
 |true=>
  rw[eb] at a;refine u false ?_ (λh=>by cases h);refine f_n Tryz.func25 ?_ ?_;exact ac (dx l) (ac (aD q) (ac (aD (fQ cr)) (ac (aP (c9 gr)) af)));refine r_z 5 ?_;refine r_c 9 (n) ?_;refine a_z ?_;refine r_c 9 (f) ?_;refine a_z ?_;refine r_c 9 (s) ?_;refine a_z ?_;refine r_c 9 (b2) ?_;refine a_z ?_;refine r_z 6 ?_;refine ae (r_d ba 28 ?_);refine d_8 ?_;refine d_4 ?_;refine AR.op1y rfl rfl rfl (.buildSlice te_34.h TZ.h rfl δ rfl rfl rfl (by simp[nuC])) rfl rfl ?_;refine AR.op1y rfl rfl rfl (.callS1 rfl rfl rfl (.shut rfl d_n (.keep (.nil))) rfl (j)) rfl rfl ?_;refine e_s (a) ?_;refine d_8 ?_;refine m_1 ?_;refine aq (n_k ?_);refine ak (Fin.many ⟨_,_,rfl,⟨_,_,_,_,_,rfl,rfl,rfl,.inl ⟨TG.h,_,TS.h,nle rfl,rfl⟩⟩,⟨_,_,rfl,⟨_,_,_,_,_,rfl,rfl,rfl,.inl ⟨TG.h,_,TS.h,nle rfl,rfl⟩⟩,⟨_,_,rfl,rfl,rfl⟩⟩⟩ (nle rfl) ?_);exact ai (ao aE (aD d)) (ai (ao aE (aD (bh _ _))) (ai (ao aE (ah _)) av))
 |false=>
 rw[eb] at a;rw[JP] at eb;have g:vaB (keM l)=true:=by simpa using eb.1
 have m:a8 (nL gr)<=20:=by have:=of_decide_eq_false eb.2;omega
 obtain⟨v1,v2,J⟩:=N g;obtain⟨bg,lg⟩:=e m;refine u (decide (nV ar<=nV br)) ?_ (λh=>⟨rfl,rfl,g,⟨v1,v2,J⟩,okKe_va g B,m,bg,lg,qa,qb,qc,of_decide_eq_true h⟩);refine f_n Tryz.func25 ?_ ?_;exact ac (dx l) (ac (aD q) (ac (aD (fQ cr)) (ac (aP (c9 gr)) af)));refine r_z 5 ?_;refine r_c 9 (n) ?_;refine a_z ?_;refine r_c 9 (f) ?_;refine a_z ?_;refine r_c 9 (s) ?_;refine a_z ?_;refine r_c 9 (b2) ?_;refine a_z ?_;refine r_z 6 ?_;refine ae (r_d ba 28 ?_);refine d_8 ?_;refine d_4 ?_;refine AR.op1y rfl rfl rfl (.buildSlice te_34.h TZ.h rfl δ rfl rfl rfl (by simp[nuC])) rfl rfl ?_;refine AR.op1y rfl rfl rfl (.callS1 rfl rfl rfl (.shut rfl d_n (.keep (.nil))) rfl (j)) rfl rfl ?_;refine e_s (a) ?_;refine e_s (o) ?_;refine a_4 ?_;refine aq (n_k ?_);refine ak (Fin.many ⟨_,_,rfl,⟨_,_,_,_,_,rfl,rfl,rfl,.inl ⟨TG.h,_,TS.h,nle rfl,rfl⟩⟩,⟨_,_,rfl,⟨_,_,_,_,_,rfl,rfl,rfl,.inl ⟨TG.h,_,TS.h,nle rfl,rfl⟩⟩,⟨_,_,rfl,rfl,rfl⟩⟩⟩ (nle rfl) ?_);exact ai (ao aE (aD d)) (ai (ao aE (aD (bh _ _))) (ai (ao aE (ah _)) av))
def zoS(A:Mx)(n:Nat)(L:Ln)(f:Nat):Ln->AState
 |[]=>⟨[(1,bSy n A L),(3,.emp),(9,i64 n),(10,i64 f)],[],1,51⟩
 |q::F=>⟨[(1,bSy n A L),(3,.lsl 1 0 (F.length+1) none 1),(9,i64 n),(10,i64 f)],[(1,some ⟨61,1,mE ((q::F).map (j4 A n L))⟩)],2,51⟩
theorem Be(A:Mx)(n:Nat)(L:Ln)(f:Nat):zoS A n L f []=⟨[(1,bSy n A L),(3,.emp),(9,i64 n),(10,i64 f)],[],1,51⟩:=rfl
theorem xC(A:Mx)(n:Nat)(L:Ln)(f q:Nat)(F:Ln):zoS A n L f (q::F)=⟨[(1,bSy n A L),(3,.lsl 1 0 (F.length+1) none 1),(9,i64 n),(10,i64 f)],[(1,some ⟨61,1,mE ((q::F).map (j4 A n L))⟩)],2,51⟩:=rfl
def ziS(A:Mx)(n:Nat)(L:Ln)(f:Nat):Nat->AState
 |i=>⟨[(1,bSy n A L),(3,.emp),(4,i64 f),(5,.lsl 1 0 n (some n) 3),(9,i64 n),(10,i64 f),(25,.arr (lvE L)),(26,i64 L.length),(27,i64 i)],[(1,some ⟨42,3,pE (zeJ A n L f i)⟩)],2,51⟩
def zjS(A:Mx)(n:Nat)(L:Ln)(f q:Nat)(F:Ln):Nat->AState
 |i=>⟨[(1,bSy n A L),(3,.lsl 1 0 (F.length+1) none 1),(4,i64 f),(5,.lsl 2 0 n (some n) 3),(9,i64 n),(10,i64 f),(25,.arr (lvE L)),(26,i64 L.length),(27,i64 i)],[(1,some ⟨61,1,mE ((q::F).map (j4 A n L))⟩),(2,some ⟨42,3,pE (zeJ A n L f i)⟩)],3,51⟩
theorem zX(k:Lw):(mE k).all (·.all AV.one)=true:=by
 rw[pZ];intro x a;obtain⟨p,_,rfl⟩:=sd.1 a;rfl
theorem mE_snoc(f:Nat->Lq)(F:Ln)(x:Nat):mE (F.map f)++[[.arr (pE (f x))]]=mE ((F++[x]).map f):=by simp[mE]
theorem KU(A:Mx)(n:Nat)(L:Ln)(hE:Ech A n n L)(hn:n<=25):FS 171 [syV n (A,L)] (.arr (mE ((frL L n).map (j4 A n L)))):=by
 have w:(lvE L).length=L.length:=jm L;have z:=hE.len2;have u:FS 28 [i64 1] (.agg (qC 1)):=dM 1 δ;refine f_n Tryz.func171 ?_ ?_;exact ac (fH n A L) af;refine r_z 2 ?_;refine AWp.ent (st':=⟨[(1,bSy n A L)],[],1,51⟩) ?_ ?_;have:=ew n A L;exact s_f [];refine r_z 1 ?_;refine ae (r_z 3 ?_);refine aJ (λ_:Unit=>⟨[(3,.arr (mE ((frL L n).map (j4 A n L))))],[],1,51⟩) (λ_=>True) ?_ ?_;refine aj (aC (λf=>zoS A n L f (frL L f)) (λf=>n- f) (λf=>f<=n) 0 (mN _) ?_ ?_);rw[frL_0,Be];have:=bC n A L;exact s_f [];intro f G;by_cases hlt:f< n;have d:=rn L f ω;have o:=Ax L f;cases hb:L.contains f with
 |true=>
  rw[hb] at d;cases hF:frL L f with
  |nil=>
   rw[Be];refine q_z 1 ?_;refine ae (cT (an (ae (aj (r_z 2 ?_)))));refine ae (r_c 4 (d) ?_);refine aq ?_;refine cT (ay (r_m 2 ?_));refine a_z ?_;refine⟨f+1,ω,ω,?_⟩;rw[Aw hb,hF,Be];have:=bC n A L;exact s_f []
  |cons q F=>
   rw[xC];refine q_z 1 ?_;refine ae (cT (an (ae (aj (r_z 2 ?_)))));refine ae (r_c 4 (d) ?_);refine aq ?_;refine cT (ay (r_m 2 ?_));refine a_z ?_;refine⟨f+1,ω,ω,?_⟩;rw[Aw hb,hF,xC];have:=bC n A L;exact s_f [(1,3)]
 |false=>
  rw[hb] at d;cases hF:frL L f with
  |nil=>
   rw[Be];refine q_z 1 ?_;refine ae (cT (an (ae (aj (r_z 2 ?_)))));refine ae (r_c 4 (d) ?_);refine aq ?_;refine cF (an (r_z 4 ?_));refine AWp.ent (st':=⟨[(1,bSy n A L),(3,.emp),(4,i64 f),(5,.lsl 1 0 n (some n) 3),(9,i64 n),(10,i64 f)],[(1,some ⟨42,3,pE (List.replicate n 0)⟩)],2,51⟩) ?_ ?_;refine s_x [(1,5)] (λhs=>e_28) (λhs=>?_)
   ·repeat' (first|exact aF|refine h_c ?_ ?_|exact CvLL.zeros hs n|exact bG|refine aB ?_|exact av|refine ai ?_ ?_|exact ao hs (bC n A L)|exact aZ)
   have k:(pE (List.replicate n (0:Rat)))[(0+((f:Nat):Int).toNat)]?=some (qC 0):=by simp[pE,hlt]
   have s:(pE (List.replicate n (0:Rat))).length=n:=by simp[pE]
   refine r_c 5 (u) ?_;refine a_1 ?_;refine eK (.store rfl rfl k rfl rfl rfl TS.h (nle rfl)) ?_;refine aq ?_;refine ae (r_z 4 ?_);refine aJ (λ_:Unit=>⟨[(1,bSy n A L),(3,.emp),(5,.lsl 1 0 n (some n) 3),(9,i64 n),(10,i64 f)],[(1,some ⟨42,3,pE (j4 A n L f)⟩)],2,51⟩) (λ_=>True) ?_ ?_;refine aj (aC (ziS A n L f) (λi=>L.length- i) (λi=>i<=L.length) 0 (mN _) ?_ ?_);rw[ziS.eq_1,<-zeJ_0];refine s_x [(1,5)] (λhs=>e_1) (λhs=>?_)
   ·repeat' (first|exact aF|refine h_c ?_ ?_|exact aM hs (by rw[<-jg];simp;rfl) (aK _)|exact bG|refine aB ?_|exact av|refine ai ?_ ?_|exact ao hs (bC n A L)|exact ao hs (aP (dp L))|exact aZ)
   intro i D;rw[ziS.eq_1];by_cases hli:i< L.length;obtain⟨c,d⟩:∃c,L[i]?=some c:=⟨_,eT hli⟩;have e:=hE.lt i c d;have m:i< n:=ω
   have g:(lvE L)[((i:Nat):Int).toNat]?=some [i64 c]:=uK d _ ψ;have b:(mE (k7 n A))[((i:Nat):Int).toNat]?=some [.arr (pE (aI (n+1) (A i)))]:=jZ (lO m) _ ψ;have a:(pE (aI (n+1) (A i)))[((f:Nat):Int).toNat]?=some (qC (A i f)):=fb ω _ ψ;have t:(mE (k7 n A)).length=n:=ψ
   have p:(pE (aI (n+1) (A i))).length=n+1:=by simp[pE]
   have r:(pE (zeJ A n L f i)).length=n:=by simp[pE]
   obtain⟨E,l⟩:=FP (A:=A) (L:=L) (f:=f) (i:=i) e (0+((c:Nat):Int).toNat) ω;refine q_z 1 ?_;refine ae (cT (an (ae (aj (s_r 5 ?_)))));refine a_1 ?_;refine i_x g ?_;refine l_1 g ?_;refine a_z ?_;refine r_m 13 ?_;refine a_5 ?_;refine i_x b ?_;refine l_1 b ?_;refine a_1 ?_;refine i_x a ?_;refine l_x a ?_;refine c_s (iP _) ?_;refine a_1 ?_;refine eK (.store rfl rfl l rfl rfl rfl TS.h (nle rfl)) ?_;refine aq ?_;refine r_m 2 ?_;refine a_z ?_;refine⟨i+1,ω,ω,?_⟩;rw[ziS.eq_1];refine s_x [(1,5)] (λhs=>e_1) (λhs=>?_)
   ·repeat' (first|exact aF|refine h_c ?_ ?_|exact aM hs (zeJ_s hE d e (0+((c:Nat):Int).toNat) ω) (aK _)|exact bG|refine aB ?_|exact av|refine ai ?_ ?_|exact ao hs (bC n A L)|exact ao hs (aP (dp L))|exact aZ)
   have j:i=L.length:=ω
   refine q_z 1 ?_;refine ae (cF (ay ⟨(),trivial,?_⟩));rw[<-zeJ_n (i:=i) ω];refine s_x [(1,5)] (λhs=>e_1) (λhs=>?_)
   ·repeat' (first|exact aF|refine h_c ?_ ?_|exact bv hs (aK _)|exact bG|refine aB ?_|exact av|refine ai ?_ ?_|exact ao hs (bC n A L)|exact ao hs (aP (dp L))|exact aZ)
   rintro _ _;refine r_m 5 ?_;refine a_z ?_;refine r_m 2 ?_;refine a_z ?_;refine⟨f+1,ω,ω,?_⟩;rw[uX hb,hF,Nf,xC];refine s_x [(1,3)] (λhs=>e_28) (λhs=>?_)
   ·repeat' (first|exact aF|refine h_c ?_ ?_|exact aB (y:=[.arr (pE (j4 A n L f))]) (ai (Cv.shut hs rfl (aR rfl) (by simp[pE]) (aM hs (by rw[sr];exact nk (by simp[pE])) (aK (j4 A n L f)))) av)|exact bG|refine aB ?_|exact av|refine ai ?_ ?_|exact ao hs (bC n A L)|exact aZ)
  |cons q F=>
   rw[xC];refine q_z 1 ?_;refine ae (cT (an (ae (aj (r_z 2 ?_)))));refine ae (r_c 4 (d) ?_);refine aq ?_;refine cF (an (r_z 4 ?_));refine AWp.ent (st':=⟨[(1,bSy n A L),(3,.lsl 1 0 (F.length+1) none 1),(4,i64 f),(5,.lsl 2 0 n (some n) 3),(9,i64 n),(10,i64 f)],[(1,some ⟨61,1,mE ((q::F).map (j4 A n L))⟩),(2,some ⟨42,3,pE (List.replicate n 0)⟩)],3,51⟩) ?_ ?_;refine s_x [(1,3),(2,5)] (λhs=>e_28) (λhs=>?_)
   ·repeat' (first|exact aF|refine h_c ?_ ?_|exact CvLL.zeros hs n|exact bv hs (cI _)|exact bG|refine aB ?_|exact av|refine ai ?_ ?_|exact ao hs (bC n A L)|exact aZ)
   have k:(pE (List.replicate n (0:Rat)))[(0+((f:Nat):Int).toNat)]?=some (qC 0):=by simp[pE,hlt]
   have s:(pE (List.replicate n (0:Rat))).length=n:=by simp[pE]
   refine r_c 5 (u) ?_;refine a_1 ?_;refine eK (.store rfl rfl k rfl rfl rfl TS.h (nle rfl)) ?_;refine aq ?_;refine ae (r_z 4 ?_);refine aJ (λ_:Unit=>⟨[(1,bSy n A L),(3,.lsl 1 0 (F.length+1) none 1),(5,.lsl 2 0 n (some n) 3),(9,i64 n),(10,i64 f)],[(1,some ⟨61,1,mE ((q::F).map (j4 A n L))⟩),(2,some ⟨42,3,pE (j4 A n L f)⟩)],3,51⟩) (λ_=>True) ?_ ?_;refine aj (aC (zjS A n L f q F) (λi=>L.length- i) (λi=>i<=L.length) 0 (mN _) ?_ ?_);rw[zjS.eq_1,<-zeJ_0];refine s_x [(1,3),(2,5)] (λhs=>e_1) (λhs=>?_)
   ·repeat' (first|exact aF|refine h_c ?_ ?_|exact aM hs (by rw[<-jg];simp;rfl) (aK _)|exact bv hs (cI _)|exact bG|refine aB ?_|exact av|refine ai ?_ ?_|exact ao hs (bC n A L)|exact ao hs (aP (dp L))|exact aZ)
   intro i D;rw[zjS.eq_1];by_cases hli:i< L.length;obtain⟨c,d⟩:∃c,L[i]?=some c:=⟨_,eT hli⟩;have e:=hE.lt i c d;have m:i< n:=ω
   have g:(lvE L)[((i:Nat):Int).toNat]?=some [i64 c]:=uK d _ ψ;have b:(mE (k7 n A))[((i:Nat):Int).toNat]?=some [.arr (pE (aI (n+1) (A i)))]:=jZ (lO m) _ ψ;have a:(pE (aI (n+1) (A i)))[((f:Nat):Int).toNat]?=some (qC (A i f)):=fb ω _ ψ;have t:(mE (k7 n A)).length=n:=ψ
   have p:(pE (aI (n+1) (A i))).length=n+1:=by simp[pE]
   have r:(pE (zeJ A n L f i)).length=n:=by simp[pE]
   obtain⟨E,l⟩:=FP (A:=A) (L:=L) (f:=f) (i:=i) e (0+((c:Nat):Int).toNat) ω;refine q_z 1 ?_;refine ae (cT (an (ae (aj (s_r 5 ?_)))));refine a_1 ?_;refine i_x g ?_;refine l_1 g ?_;refine a_z ?_;refine r_m 13 ?_;refine a_5 ?_;refine i_x b ?_;refine l_1 b ?_;refine a_1 ?_;refine i_x a ?_;refine l_x a ?_;refine c_s (iP _) ?_;refine a_1 ?_;refine eK (.store rfl rfl l rfl rfl rfl TS.h (nle rfl)) ?_;refine aq ?_;refine r_m 2 ?_;refine a_z ?_;refine⟨i+1,ω,ω,?_⟩;rw[zjS.eq_1];refine s_x [(1,3),(2,5)] (λhs=>e_1) (λhs=>?_)
   ·repeat' (first|exact aF|refine h_c ?_ ?_|exact aM hs (zeJ_s hE d e (0+((c:Nat):Int).toNat) ω) (aK _)|exact bv hs (cI _)|exact bG|refine aB ?_|exact av|refine ai ?_ ?_|exact ao hs (bC n A L)|exact ao hs (aP (dp L))|exact aZ)
   have j:i=L.length:=ω
   refine q_z 1 ?_;refine ae (cF (ay ⟨(),trivial,?_⟩));rw[<-zeJ_n (i:=i) ω];refine s_x [(1,3),(2,5)] (λhs=>e_1) (λhs=>?_)
   ·repeat' (first|exact aF|refine h_c ?_ ?_|exact bv hs (aK _)|exact bv hs (cI _)|exact bG|refine aB ?_|exact av|refine ai ?_ ?_|exact ao hs (bC n A L)|exact ao hs (aP (dp L))|exact aZ)
   rintro _ _;have B:F.length+1<=f:=by rw[hF] at o;simpa using o
   have C:(mE ((q::F).map (j4 A n L))).length=F.length+1:=ψ
   have v:(mE ((q::F).map (j4 A n L))).all (·.all AV.one)=true:=zX _;refine r_m 5 ?_;refine a_z ?_;refine r_m 2 ?_;refine a_z ?_;refine⟨f+1,ω,ω,?_⟩;rw[uX hb,hF,LJ,xC];refine s_x [(1,3)] (λhs=>?_) (λhs=>?_)
   ·repeat' (first|exact aV|refine aA rfl ?_ ?_|exact ao hs (bC n A L)|(refine Cv.slE rfl rfl rfl rfl ?_ rfl;simp;done)|exact aZ)
   ·repeat' (first|exact aF|refine h_c ?_ ?_|exact MQ (yU (x:=[.lsl 2 0 n (some n) 3]) (ai (Cv.shut hs rfl (aR rfl) (by simp[pE]) (aM hs (by rw[sr];exact nk (by simp[pE])) (aK (j4 A n L f)))) av) (bv hs (cI _))) (mE_snoc _ _ _)|exact bG|refine aB ?_|exact av|refine ai ?_ ?_|exact ao hs (bC n A L)|(refine Cv.slE rfl rfl rfl rfl ?_ rfl;simp;done)|exact aZ)
 have j:f=n:=ω
 cases hF:frL L f with
 |nil=>
  rw[Be];refine q_z 1 ?_;refine ae (cF (ay ⟨(),trivial,?_⟩));rw[<-j,hF];exact s_e []
 |cons q F=>
  rw[xC];refine q_z 1 ?_;refine ae (cF (ay ⟨(),trivial,?_⟩));rw[<-j,hF];exact s_x [] (λhs=>e_57) (λhs=>e_58)
 rintro _ _;refine r_z 2 ?_;exact ak (t_e (closed_mA _))
theorem yc(a b:Lw):mE (a++b)=mE a++mE b:=by simp[mE]
def erS(k:Lw)(g:Nat)(fst:La)(f:Lq->Lq):Nat->AState
 |0=>⟨[(1,.clos g fst []),(8,.arr (mE k)),(9,i64 k.length),(10,i64 0),(5,.emp)],[],1,22⟩
 |i+1=>⟨[(1,.clos g fst []),(8,.arr (mE k)),(9,i64 k.length),(10,i64 ((i+1:Nat):Int)),(5,.lsl 1 0 (i+1) none 1)],[(1,some ⟨62,1,mE ((k.take (i+1)).map f)⟩)],2,22⟩
theorem Lk(k:Lw)(g:Nat)(fst:La)(f:Lq->Lq)(hfst:∀c∈fst,Closed c)(hl:k.length<=1000)(hg:∀p∈k,FS g ((fst++[AV.arr (pE p)]++[]).map coe) (.arr (pE (f p)))):FS 170 [.arr (mE k),.clos g fst []] (.arr (mE (k.map f))):=by
 have n:(mE k).length=k.length:=(by simp[mE]:(mE k).length=k.length);have hcc:Closed (.clos g fst []):=aX hfst af;refine f_c Tryz.func170 ?_;refine r_z 1 ?_;refine r_z 1 ?_;refine ae (r_z 3 ?_);refine aJ (λ_:Unit=>⟨[(5,.arr (mE (k.map f)))],[],1,22⟩) (λ_=>True) ?_ ?_;refine aj (aC (erS k g fst f) (λi=>k.length- i) (λi=>i<=k.length) 0 (mN _) ?_ ?_);rw[erS.eq_1];refine s_x [] (λhs=>e_29) (λhs=>?_)
 ·repeat' (first|exact aF|refine h_c ?_ ?_|exact bG|refine aB ?_|exact av|refine ai ?_ ?_|exact ao hs (closed_mA k)|exact ao hs hcc|exact aZ)
 intro i o;by_cases hlt:i< k.length;obtain⟨p,hp⟩:∃p,k[i]?=some p:=⟨_,eT hlt⟩;have h:=hg p (mc hp);have l:(k.take (i+1)).length=i+1:=by rw[yv];omega
 have b:mE ((k.take i).map f)++[[.arr (pE (f p))]]=mE ((k.take (i+1)).map f):=by rw[cZ hp,N7,Oj,yc];rfl
 cases i with
 |zero=>
  have a:(mE k)[((0:Int)).toNat]?=some [.arr (pE p)]:=jZ hp _ rfl;rw[erS.eq_1];refine q_z 1 ?_;refine ae (cT (an (ae (aj (s_r 3 ?_)))));refine i_x a ?_;refine l_1 a ?_;refine a_z ?_;refine r_m 7 ?_;refine c_s (h) ?_;refine a_z ?_;refine r_m 2 ?_;refine a_z ?_;refine⟨0+1,ω,ω,?_⟩;rw[erS.eq_2];rw[<-b];refine s_x [(1,5)] (λhs=>e_29) (λhs=>?_)
  ·repeat' (first|exact aF|refine h_c ?_ ?_|exact bv hs (cI [f p])|exact bG|refine aB ?_|exact av|refine ai ?_ ?_|exact ao hs (closed_mA k)|exact ao hs hcc|exact aZ)
 |succ i=>
  have a:(mE k)[(((i+1:Nat):Int)).toNat]?=some [.arr (pE p)]:=jZ hp _ ψ;have m:=zX ((k.take (i+1)).map f);have d:(mE ((k.take (i+1)).map f)).length=i+1:=by simp[mE];omega
  rw[erS.eq_2];refine q_z 1 ?_;refine ae (cT (an (ae (aj (s_r 3 ?_)))));refine i_x a ?_;refine l_1 a ?_;refine a_z ?_;refine r_m 7 ?_;refine c_s (h) ?_;refine a_z ?_;refine r_m 2 ?_;refine a_z ?_;refine⟨i+1+1,ω,ω,?_⟩;rw[erS.eq_2];refine s_x [(1,5)] (λhs=>e_29) (λhs=>?_)
  ·repeat' (first|exact aF|refine h_c ?_ ?_|exact aM hs b (cI _)|exact bG|refine aB ?_|exact av|refine ai ?_ ?_|exact ao hs (closed_mA k)|exact ao hs hcc|exact aZ)
 have e:i=k.length:=ω
 cases i with
 |zero=>
  have j:k=[]:=xi e.symm;subst j;rw[erS.eq_1];refine q_z 1 ?_;refine ae (cF (ay ⟨(),trivial,?_⟩));exact s_e []
 |succ i=>
  have d:(mE (k.map f)).length=i+1:=by simp[mE];omega
  rw[erS.eq_2,e,qj];refine q_z 1 ?_;refine ae (cF (ay ⟨(),trivial,?_⟩));exact s_x [] (λhs=>e_57) (λhs=>e_58)
 rintro _ _;refine r_z 2 ?_;exact ak (t_e (closed_mA _))
theorem KR(l:La)(hcl:∀z∈l,Closed z/\coe z=z)(hl:l.length<=281474976710656):GSpec Tryz.prog 234 [.aptr [[.arr (l.map λz=>[z])]] 0 0] (mB l):=by
 have n:Closed (.arr (l.map λz=>[z])):=aP λe s c u=>by
  obtain⟨z,r,rfl⟩:=sd.1 s;rw[kI.1 u];exact(hcl z r).1
 have a:Closed (.aptr [[.arr (l.map λz=>[z])]] 0 0):=aN (ac n af)
 have j:∀i,i< l.length->(l.map λz=>[z])[i]?=some [l.getD i .any]:=λi b=>by
  rw[wS,eT b,jH,eT b];rfl
 have d:∀i,i< l.length->Closed (l.getD i .any):=λi b=>by
  rw[jH,eT b];exact(hcl _ (FH b)).1
 have g:∀i,i< l.length->coe (l.getD i .any)=l.getD i .any:=λi b=>by
  rw[jH,eT b];exact(hcl _ (FH b)).2
 have p:(l.map λz=>[z]).length=l.length:=Ey ..;refine GSpec.enter Tryz.func234 rfl ξ rfl rfl rfl ?_ ?_ rfl ?_;exact ac (a) af;intro k xs h;unfold mB at h;split at h;cases h;exact ac (ah _) (ac (d _ ω) af);cases h;intro o N E;refine GWp.seq ?_;refine GWp.lift ?_;refine r_m 4 ?_;refine a_z ?_;refine GWp.block ?_;refine GWp.loopS (λm:Nat=>⟨[(0,.v (.func (.yield o) #[] #[])),(1,.aptr [[.arr (l.map λz=>[z])]] 0 0),(3,i64 ((m:Int)- 1))],[],1,19⟩) (λm=>l.length- m) (λm=>m) (λm=>m<=l.length) l.length (ir _) ψ ?_ ?_;have:=a;exact s_f [];intro m x;refine GWp.seq ?_;refine GWp.seq ?_;refine GWp.lift ?_;refine r_m 2 ?_;refine a_z ?_;refine GWp.cond rfl (λh=>?_) (λh=>?_)
 ·refine GWp.skip ?_
  have q:1<=m:=by have:=of_decide_eq_true h;omega
  have w:=d (m- 1) ω;have f:(l.map λz=>[z])[((m:Int)- 1).toNat]?=some [l.getD (m- 1) .any]:=by rw[show((m:Int)- 1).toNat=m- 1 by omega];exact j _ ω
  refine GWp.seq ?_;refine GWp.block ?_;refine GWp.seq ?_;refine GWp.regY (fr2:=[(0,.v (.func (.yield o) #[] #[])),(1,.aptr [[.arr (l.map λz=>[z])]] 0 0),(3,i64 ((m:Int)- 1)),(11,.v (.func (.yield o) #[] #[])),(12,i64 ((m:Int)- 1)),(16,l.getD (m- 1) .any)]) (hp2:=[]) (nx2:=1) 6 rfl rfl rfl rfl rfl rfl ?_ rfl rfl rfl ?_ ?_ ?_;refine o_0 (.move rfl) ?_;refine o_0 (.move rfl) ?_;refine bZ (.load_a1 rfl rfl TG.h rfl) rfl rfl ?_;refine o_0 (.move rfl) ?_;refine i_x f ?_;refine l_1 f ?_;refine aq ?_;have:=a;exact s_t [];rotate_left 2;intro t;refine o_0 (.un rfl nq) ?_;refine aq ?_;rotate_left;unfold mB;rw[if_pos ω];have e1:((l.length- 1- (l.length- m):Nat):Int)=(m:Int)- 1:=ω
  have e2:l.length- 1- (l.length- m)=m- 1:=ω
  rw[e1,e2];show some _=some [_,coe (l.getD (m- 1) .any)];rw[g _ ω];rfl;show∀c∈[_,coe (l.getD (m- 1) .any)],Closed c;rw[g _ ω];exact ac (ah _) (ac (d _ ω) af);cases t with
  |false=>
   refine GWp.cond rfl (λh=>?_) (λh=>?_);exact GWp.ret ⟨.inr rfl,λh=>by cases h⟩;cases h
  |true=>
   refine GWp.cond rfl (λh=>?_) (λh=>?_);cases h;refine GWp.skip ?_;refine GWp.lift ?_;refine r_m 3 ?_;refine a_z ?_;refine⟨rfl,m- 1,ω,ω,ω,?_⟩;have:=a;exact s_f []
 refine GWp.exit ⟨.inl rfl,λ_=>?_⟩;have:m=0:=by have:=of_decide_eq_false h;omega
 subst this;unfold mB;rw[if_neg ω]
theorem backA_M(l:Lw):mB (l.map λp=> .arr (pE p))=nh l:=funext λk=>by
 unfold mB nh;rw[Ey];by_cases h:k< l.length;rw[if_pos h,if_pos h,jH,jH,wS,eT (show l.length- 1- k< l.length by omega)];rfl;rw[if_neg h,if_neg h]
theorem LF(x:Option Addr)(n c:Nat):FS 172 [.v (.slice x n c)] (.clos 234 [] [.aptr [[.v (.slice x n c)]] 0 0]):=by
 refine f_c Tryz.func172 ?_;refine r_z 2 ?_;refine s_r 2 ?_;refine o_0 (.makeFunc rfl rfl) ?_;refine o_0 (.assign rfl) ?_;refine aq ?_;refine ak (⟨.inr rfl,[_],⟨_,[],rfl,rfl,rfl⟩,?_⟩);exact Cv.clos av (ai (Cv.boxp aE rfl (λ_ _ h=>by cases h) rfl (ac (ah _) af)) av)
structure OkRd (p b:Lq):Prop where
 d:0<=a8 b
 bl:b.length<=1099511627776
 pl:p.length<=1099511627776
 bs:smL b
 cs:sm (coP p (a8 b).toNat)
 ss:smL (aW b (coP p (a8 b).toNat))
 ps:smL p
def rbT(p:Lq)(B:Lw)(z:AV):Nat->AState
 |k=>⟨[(2,.lptr 1 0 0),(9,.clos 234 [] [z])],[(1,some ⟨62,1,[[.arr (pE (rbK p B k))]]⟩)],2,28⟩
theorem yj (H:(Nat->Prop)->World->Prop) (y z:AV) (p:Lq) (B:Lw) (hy:Closed y) (hz:Closed z) (hyz:coe y=y) (hzz:coe z=z) (h:∀k,k< B.length->OkRd (rbK p B k) (B.getD (B.length- 1- k) [])) (hl:(rbK p B B.length).length<=1099511627776)
    (hb:FS 172 [y] (.clos 234 [] [z])) (hgs:∀M (w0:Base),(H M w0.w/\∀b,b< w0.w.heap.size->w0.K b)->GSpecK Tryz.prog 234 ([z].map coe) (nh B) B.length M w0):
    FSpecW Tryz.prog 81 [.arr (pE p),y] (.arr (pE (reP p B))) H:=by
 have o:=ee _ hl;have r:Closed (.clos 234 [] [z]):=aX af (ac hz af);refine FSpecW.enter Tryz.func81 rfl ξ rfl rfl rfl ?_ rfl ?_;exact ac (aw p) (ac hy af);refine AWpC.seq (AWp.toC ?_);refine r_m 2 ?_;refine a_z ?_;refine AWpC.seq ?_;refine AWpC.seq (AWp.toC ?_);refine r_m 2 ?_;refine o_0 (.move rfl) ?_;refine o_0 (.call rfl rfl rfl ((by show FSpec _ _ [coe y] _;rw[hyz];exact hb))) ?_;refine aq ?_;refine AWpC.cutT (λ_:Unit=>⟨[(2,.lptr 1 0 0)],[(1,some ⟨62,1,[[.arr (pE (rbK p B B.length))]]⟩)],2,28⟩) (λ_=>True) ?_ ?_;refine AWpC.block ?_;refine AWpC.rangeFunc (α:=Nat) (γ:=Empty) B.length (rbT p B z) (λk=>k) (λk=>k<=B.length) (λe=>nomatch e) (λ_ e=>nomatch e) 0 rfl hgs rfl rfl ?_ (λ_=>⟨rfl,rfl⟩) (λe=>nomatch e) (mN _) rfl (λ_ h=>h) ?_ ?_ ?_ ?_ (λ_ e=>nomatch e);intro k xs a;unfold nh at a;split at a;cases a;rfl;cases a;rw[rbT.eq_1];exact s_t [(1,2)];show∀c∈[coe z],Closed c;rw[hzz];exact ac hz af
 ·intro l k xs s a
  unfold nh at a;split at a;rotate_left;cases a;rename_i hlt;cases a;have ok:=h k hlt;obtain⟨b,j⟩:∃b,b=B.getD (B.length- 1- k) []:=⟨_,rfl⟩;rw[<-j] at ok⊢;have f:rbK p B (k+1)=rbF (rbK p B k) b:=by rw[rbK,<-j]
  have q:=ce b ok.bl;show AWp _ _ _ _ ⟨[(11,.arr (pE b)),(10,i64 (B.length- 1- k:Nat)),(2,.lptr 1 0 0),(9,.clos 234 [] [z]),(1002,.lptr 1 0 0),(1009,.clos 234 [] [z])],[(1,some ⟨62,1,[[.arr (pE (rbK p B k))]]⟩)],2,28⟩;refine r_m 1 ?_;refine a_z ?_;refine aj (r_c 3 (q) ?_);refine a_z ?_;have n:(pE (rbK p B k)).length=(rbK p B k).length:=by simp[pE]
  have d0:=ok.d;by_cases hd:a8 b< (rbK p B k).length
  have g:(pE (rbK p B k))[(a8 b).toNat]?=some (qC (coP (rbK p B k) (a8 b).toNat)):=by
   have:=cm (p:=rbK p B k) (i:=(a8 b).toNat) ω;simp[pE,this]
  have v:=eY b (coP (rbK p B k) (a8 b).toNat) ok.bs ok.cs ok.bl;have m:=wD (rbK p B k) _ ok.ps ok.ss ok.pl (fo (du _ _) ok.bl);rw[show dC (rbK p B k) (aW b (coP (rbK p B k) (a8 b).toNat))=rbK p B (k+1) by rw[f,rbF,if_pos hd]] at m;refine q_z 4 ?_;refine cT (r_d ba 9 ?_);refine a_4 ?_;refine i_x g ?_;refine l_x g ?_;refine c_s (v) ?_;refine c_s (m) ?_;refine a_1 ?_;refine aq (n_k ?_);refine⟨k+1,⟨hlt,rfl⟩,?_⟩;show SEntT _ ⟨[(1002,.lptr 1 0 0),(1009,.clos 234 [] [z])],[(1,some ⟨62,1,[[.arr (pE (rbK p B (k+1)))]]⟩)],2,28⟩;exact s_t [(1,2)];have u:rbK p B (k+1)=rbK p B k:=by rw[f,rbF,if_neg hd]
  refine q_z 4 ?_;refine cF (an (⟨k+1,⟨hlt,rfl⟩,?_⟩));show SEntT _ ⟨[(1002,.lptr 1 0 0),(1009,.clos 234 [] [z])],[(1,some ⟨62,1,[[.arr (pE (rbK p B (k+1)))]]⟩)],2,28⟩;rw[u];exact s_t [(1,2)]
 intro k s a;unfold nh at a;split at a;cases a;refine⟨(),trivial,?_⟩;rw[rbT.eq_1];have t:k=B.length:=ω
 subst t;exact s_e [(1,2)];rintro _ _;refine AWpC.seq (AWp.toC ?_);refine r_m 3 ?_;refine c_s (o) ?_;refine a_z ?_;refine AWp.toC (ak ?_);exact t_e (aw _)
theorem yl(p:Lq)(B:Lw)(hB:B.length<=281474976710656)(h:∀k,k< B.length->OkRd (rbK p B k) (B.getD (B.length- 1- k) []))(hl:(rbK p B B.length).length<=1099511627776):FS 81 [.arr (pE p),.arr (mE B)] (.arr (pE (reP p B))):=
 (yj (λ_ _=>True) _ (bM B) p B (closed_mA B) (dZ B) rfl rfl h hl (CD B) λM a _=>GSpecK.of (Ce B hB)).to
theorem EI(p:Lq)(B:Lw)(b1:Nat)(x:Option Addr)(n c:Nat)(hB:B.length<=281474976710656)(h:∀k,k< B.length->OkRd (rbK p B k) (B.getD (B.length- 1- k) []))(hl:(rbK p B B.length).length<=1099511627776):FSpecW Tryz.prog 81 [.arr (pE p),.v (.slice x n c)] (.arr (pE (reP p B))) (Hy b1 (.slice x n c) (B.map λb=> .arr (pE b))):=by
 refine yj _ (.v (.slice x n c)) (.aptr [[.v (.slice x n c)]] 0 0) p B (ah _) (aN (ac (ah _) af)) rfl rfl h hl (LF x n c) λM f a=>?_
 have:=GSpecK.look (P:=Tryz.prog) (g:=234) (N:=B.length) (λxs d=>by
  have:=KR (xs.map .v) (λz e=>by obtain⟨x,_,rfl⟩:=sd.1 e;exact⟨ah x,rfl⟩) (by rw[Ey,d,Ey];exact hB) B.length;rw[Oz] at this;exact this) a.2 a.1
 rw[backA_M] at this;exact this

end Go.Proofs.YtjmkjicckobojaaGreatDoor
