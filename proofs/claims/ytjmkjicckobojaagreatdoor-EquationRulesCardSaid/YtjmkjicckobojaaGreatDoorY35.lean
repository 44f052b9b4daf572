/- Part Y35 of the proof. -/
import Derived.Test.YtjmkjicckobojaaGreatDoorY34
set_option linter.all false
namespace Go.Proofs.YtjmkjicckobojaaGreatDoor
open Go.Abs
set_option maxRecDepth 20000
set_option maxHeartbeats 4000000
def zsK(k:Ke)(m:Mx×Ln):Lw:=((frL m.2 k.length).map (j4 m.1 k.length m.2)).map λz=>smK k z k.length
theorem Li(k:Ke)(l:Rat)(g:Lq)(a b:Rat)(A:Mx)(L:Ln)(hE:Ech A k.length k.length L)(hkl:k.length<=25)(hc:∀f∈frL L k.length,∀i p,k[i]?=some p->OkSm k (j4 A k.length L f) i p)(B:Lw)(hB:FS 169 [.arr (mE (zsK k (A,L)))] (.arr (mE B))):
    FS 80 [.agg (tkC k l g a b),syV k.length (A,L)] (.arr (mE B)):=by
 have d:=KU A k.length L hE hkl;have j:=Ax L k.length
 have h:=Lk ((frL L k.length).map (j4 A k.length L)) 83 [.arr (kE k)] (λz=>smK k z k.length) (ac (a6 k) af) χ λz d=>by
  obtain⟨f,e,rfl⟩:=sd.1 d;exact uQ k _ ψ ω (hc f e)
 have c:Closed (syV k.length (A,L)):=fH _ _ _;refine f_n Tryz.func80 ?_ ?_;exact ac (aD (dT k l g a b)) (ac c af);refine r_z 3 ?_;refine ae (r_d ba 9 ?_);refine c_s (d) ?_;refine c_s (h) ?_;refine c_s (hB) ?_;refine a_1 ?_;refine aq (n_k ?_);exact ak (t_e (closed_mA _))
theorem Ir (k:Ke) (l:Rat) (g:Lq) (a b:Rat) (s:Nat) (h:OkTa k l g a b s) (h2:OkSu k l g a b) (hN:lU k.length (syM k l (rhK k g a b) a b).1 (syM k l (rhK k g a b) a b).2=false)
    (hc:∀f∈frL (syM k l (rhK k g a b) a b).2 k.length,∀i p,k[i]?=some p->OkSm k (j4 (syM k l (rhK k g a b) a b).1 k.length (syM k l (rhK k g a b) a b).2 f) i p) (B:Lw) (hB:FS 169 [.arr (mE (zsK k (syM k l (rhK k g a b) a b)))] (.arr (mE B)))
    (hR:FS 81 [.arr (pE (syU k l g a b)),.arr (mE B)] (.arr (pE (reP (syU k l g a b) B)))):
    FS 27 [.agg (eqC k l g),.agg (spC a b)] (.tup [.arr (pE (reP (syU k l g a b) B)),.arr (mE B),i64 0]):=by
 have q:=h.ke.1;have m:=iO k l g a b h.ke h.ha h.hb h.ab h.dg h.gl;have hs:=oH k l g a b s h.sy h.rh;have j:=h.none;rw[hN] at j;have n:=Li k l g a b (syM k l (rhK k g a b) a b).1 (syM k l (rhK k g a b) a b).2 (eA _ _ _) ω hc B hB;have o:=qZ (syM k l (rhK k g a b) a b).1 k.length (syM k l (rhK k g a b) a b).2 (eA _ _ _) ω;have c:=uQ k (nr k l g a b) (by unfold nr;simp) ω h2.ms;have d:=eY _ l h2.u1 h2.sl h2.u2;have e:=nU g _ h2.sg h2.v1 h.gl h2.v2;refine f_n Tryz.func27 ?_ ?_;exact ac (aD (bt k l g)) (ac (aD (bh a b)) af);refine r_z 5 ?_;refine r_z 5 ?_;refine AWp.ent (st':=⟨[(7,bTk k l g a b)],[],1,38⟩) ?_ ?_;have:=dT k l g a b;exact s_f [];refine ae (r_c 2 (m) ?_);refine aq ?_;refine cF (an (r_c 4 (hs) ?_));refine a_z ?_;refine AWp.ent (st':=⟨[(7,bTk k l g a b),(8,bSy k.length (syM k l (rhK k g a b) a b).1 (syM k l (rhK k g a b) a b).2)],[],1,38⟩) ?_ ?_;exact s_x [] (λhs=>e_24) (λhs=>e_25);refine ae (r_c 2 (j) ?_);refine aq ?_;refine cF (an (r_c 4 (n) ?_));refine a_z ?_;refine ae (r_d ba 20 ?_);refine c_s (o) ?_;refine c_s (c) ?_;refine c_s (d) ?_;refine c_s (e) ?_;refine c_s (hR) ?_;refine a_4 ?_;refine aq (n_k ?_);refine ak (Fin.many ⟨_,_,rfl,rfl,⟨_,_,rfl,rfl,⟨_,_,rfl,rfl,rfl⟩⟩⟩ (nle rfl) ?_);exact ai (ao aE (aw _)) (ai (ao aE (closed_mA _)) (ai (ao aE (ah _)) av))
theorem Eu(l:Lw)(i:Nat)(q:Lq):(mE l).set i [.arr (pE q)]=mE (l.set i q):=by simp[mE,OW]
theorem fs_eCmp(a b:Lq)(ha:a.length<=1099511627776)(hb:b.length<=1099511627776):FS 232 [.arr (pE a),.arr (pE b)] (i64 (a8 a- a8 b)):=by
 have d:=ce a ha;have c:=ce b hb;have l1:=bm a;have l2:=bm b;have d1:a8 a=(am a).length- 1:=rfl;have d2:a8 b=(am b).length- 1:=rfl;refine f_c Tryz.func232 ?_;refine r_z 1 ?_;refine r_c 6 (d) ?_;refine c_s (c) ?_;refine a_z ?_;exact ak (t_e (ah _))
def ioS(L:Lw)(n:Nat):Nat->AState
 |i=>⟨[(0,.lsl 0 0 n none 1),(1,i64 0),(2,i64 n),(3,.clos 232 [] []),(8,i64 ((i:Int)+1))],[(0,some ⟨62,1,mE (kS L i)⟩)],1,53⟩
def ijS(n i:Nat):Nat×Lw->AState
 |(j,X)=>⟨[(0,.lsl 0 0 n none 1),(1,i64 0),(2,i64 n),(3,.clos 232 [] []),(8,i64 ((i:Int)+1)),(9,i64 j)],[(0,some ⟨62,1,mE X⟩)],1,53⟩
theorem IK(L:Lw)(n:Nat)(hn:L.length=n)(h1:1<=n)(hl:n<=12)(hb:∀p∈L,p.length<=1099511627776):
    ESpec Tryz.prog 296 62 1 (mE L) (mE (kS L (n- 1))) 0 n none [i64 0,i64 n,.clos 232 [] []] (.tuple #[]):=by
 have f:∀i,i< L.length->∀p∈kS L i,p.length<=1099511627776:=wl L hb;refine ESpec.enter Tryz.func296 rfl ξ rfl rfl rfl ?_ ?_ ?_ rfl ?_;exact ac (ah _) (ac (ah _) (ac (aX af af) af));exact cI _;exact cI _;refine r_z 3 ?_;refine aj (aC (ioS L n) (λi=>n- i) (λi=>i< n) 0 ω ?_ ?_);rw[ioS.eq_1];exact s_f [];intro i y;rw[ioS.eq_1];by_cases hlt:i+1< n;refine ae (q_z 3 ?_);refine cT (an (ae (aj (r_z 2 ?_))));have m:(kS L i).length=n:=by rw[nM,hn]
 refine AWp.cutB (λ_:Unit=>⟨[(0,.lsl 0 0 n none 1),(1,i64 0),(2,i64 n),(3,.clos 232 [] []),(8,i64 ((i:Int)+1))],[(0,some ⟨62,1,mE (kS L (i+1))⟩)],1,53⟩) (λ_=>True) ?_ ?_;refine aj (aC (ijS n i) (λs=>s.1) (λs=>s.1<=i+1/\s.2.length=n/\sK s.2 s.1=kS L (i+1)/\∀p∈s.2,p.length<=1099511627776) (i+1,kS L i) ⟨ir _,m,by rw[kS],f i ω⟩ ?_ ?_);simp only[ijS.eq_1];exact s_f [];rintro⟨j,X⟩ ⟨x,l,d,e⟩;simp only at x l d e;simp only[ijS.eq_1];have q:(mE X).length=n:=by simp[l]
 cases j with
 |zero=>
  refine ae (ae (r_d ba 17 ?_));refine d_8 ?_;refine d_8 ?_;refine m_1 ?_;refine aq (n_k ?_);refine cF (ay ⟨(),trivial,?_⟩);rw[<-d,sK];exact s_f []
 |succ j=>
  obtain⟨a,ha⟩:∃a,X[j+1]?=some a:=⟨_,eT ω⟩;obtain⟨b,c⟩:∃b,X[j]?=some b:=⟨_,eT ω⟩;have r:X.getD (j+1) []=a:=by rw[jH,ha];rfl
  have w:X.getD j []=b:=by rw[jH,c];rfl
  have g:(mE X)[0+(((j+1:Nat):Int)).toNat]?=some [.arr (pE a)]:=jZ ha _ ω;have k:(mE X)[0+(((j+1:Nat):Int)- 1).toNat]?=some [.arr (pE b)]:=jZ c _ ω;have o:=fs_eCmp a b (e a (mc ha)) (e b (mc c));rw[sK,r,w] at d;by_cases hd:a8 a< a8 b;rw[if_pos hd] at d;refine ae (ae (r_d ba 17 ?_));refine d_7 ?_;refine bF rfl rfl rfl (.index_l rfl rfl ω ω te_94.h) rfl rfl ?_;refine bF rfl rfl rfl (.load_l1 rfl rfl g TG.h rfl) rfl rfl ?_;refine d_3 ?_;refine bF rfl rfl rfl (.index_l rfl rfl ω ω te_94.h) rfl rfl ?_;refine bF rfl rfl rfl (.load_l1 rfl rfl k TG.h rfl) rfl rfl ?_;refine c_s (o) ?_;refine d_2 ?_;refine aq (n_k ?_);refine cT (an (ae (aj ?_)))
  have t:((mE X).set (0+(((j+1:Nat):Int)).toNat) [.arr (pE b)])[0+(((j+1:Nat):Int)- 1).toNat]?=some [.arr (pE b)]:=by
   rw[ND ω];exact k
  refine r_d ba 18 ?_;refine a_8 ?_;refine bZ (.index_l rfl rfl ω ω te_94.h) rfl rfl ?_;refine bZ (.load_l1 rfl rfl k TG.h rfl) rfl rfl ?_;refine a_2 ?_;refine bZ (.index_l rfl rfl ω ω te_94.h) rfl rfl ?_;refine bZ (.load_l1 rfl rfl g TG.h rfl) rfl rfl ?_;refine a_1 ?_;refine eK (.store rfl rfl g rfl rfl rfl TS.h (nle rfl)) ?_;refine a_1 ?_;refine eK (.store rfl rfl t rfl rfl rfl TS.h (nle rfl)) ?_;refine aq (n_k ?_);refine r_m 3 ?_;refine a_z ?_;refine⟨(j,(X.set (j+1) b).set j a),by simp only;omega,⟨by simp only;omega,by simp[l],d,?_⟩,?_⟩;intro p hp;simp only at hp;rcases NI hp with h|h
  rcases NI h with h|h
  exact e p h;rw[h];exact e b (mc c);rw[h];exact e a (mc ha);have e1:0+(((j+1:Nat):Int)).toNat=j+1:=ω
  have e2:0+(((j+1:Nat):Int)- 1).toNat=j:=ω
  have u:((mE X).set (0+(((j+1:Nat):Int)).toNat) [.arr (pE b)]).set (0+(((j+1:Nat):Int)- 1).toNat) [.arr (pE a)]=((mE X).set (j+1) [.arr (pE b)]).set j [.arr (pE a)]:=by rw[e1,e2]
  simp only[ijS.eq_1];refine s_x [] (λhs=>e_59) (λhs=>?_)
  ·repeat' (first|exact aF|refine h_c ?_ ?_|exact aM hs (by rw[<-Eu,<-Eu];exact u) (cI _)|exact bG|refine aB ?_|exact av|refine ai ?_ ?_|(refine Cv.loE hs ?_ (ah _);simp[i64];done)|exact aZ)
  rw[if_neg hd] at d;refine ae (ae (r_d ba 17 ?_));refine d_7 ?_;refine bF rfl rfl rfl (.index_l rfl rfl ω ω te_94.h) rfl rfl ?_;refine bF rfl rfl rfl (.load_l1 rfl rfl g TG.h rfl) rfl rfl ?_;refine d_3 ?_;refine bF rfl rfl rfl (.index_l rfl rfl ω ω te_94.h) rfl rfl ?_;refine bF rfl rfl rfl (.load_l1 rfl rfl k TG.h rfl) rfl rfl ?_;refine c_s (o) ?_;refine d_2 ?_;refine aq (n_k ?_);refine cF (ay ⟨(),trivial,?_⟩);rw[<-d];exact s_f []
 rintro _ _;refine r_m 3 ?_;refine a_z ?_;refine⟨i+1,ω,hlt,?_⟩;rw[ioS.eq_1];refine s_x [] (λhs=>e_59) (λhs=>?_)
 ·repeat' (first|exact aF|refine h_c ?_ ?_|exact bv hs (cI _)|exact bG|refine aB ?_|exact av|refine ai ?_ ?_|(refine Cv.loE hs ?_ (ah _);simp[i64];done)|exact aZ)
 have v:i=n- 1:=ω
 refine ae (q_z 3 ?_);refine cF (ay ?_);rw[<-v];exact FinE.none (.inl rfl) rfl rfl
theorem es_pdq(L:Lw)(n m:Nat)(hn:L.length=n)(h1:1<=n)(hl:n<=12)(hb:∀p∈L,p.length<=1099511627776):
    ESpec Tryz.prog 272 62 1 (mE L) (mE (kS L (n- 1))) 0 n none [i64 0,i64 n,i64 m,.clos 232 [] []] (.tuple #[]):=by
 have a:=IK L n hn h1 hl hb;refine ESpec.enter Tryz.func272 rfl ξ rfl rfl rfl ?_ ?_ ?_ rfl ?_;exact ac (ah _) (ac (ah _) (ac (ah _) (ac (aX af af) af)));exact cI _;exact cI _;refine r_z 1 ?_;refine r_z 1 ?_;refine aj (aC (λ_:Unit=>⟨[(0,.lsl 0 0 n none 1),(1,i64 0),(2,i64 n),(4,.clos 232 [] [])],[(0,some ⟨62,1,mE L⟩)],1,148⟩) (λ_=>0) (λ_=>True) () trivial ?_ ?_);exact s_f [];rintro _ _;refine aj (r_z 4 ?_);refine ae (q_z 2 ?_);refine cT (s_r 5 ?_);refine a_4 ?_;refine o_1 (.callE2 rfl rfl rfl rfl rfl rfl (a)) ?_;refine aq ?_;exact ak (FinE.none (.inr rfl) rfl rfl)
def lenT(n:Nat):Nat:=if n< 2 then 1 else if n< 4 then 2 else if n< 8 then 3 else 4
theorem Ix(n:Nat)(h:n=1\/n=2\/n=3\/n=4\/n=5\/n=6\/n=7\/n=8\/n=9\/n=10\/n=11\/n=12):FS 305 [.v (.int .u64 (n:Int))] (i64 (lenT n)):=by
 rcases h with rfl|rfl|rfl|rfl|rfl|rfl|rfl|rfl|rfl|rfl|rfl|rfl
 all_goals (
  refine f_c Tryz.func305 ?_;refine r_z 1 ?_;refine ae (s_r 2 ?_);refine a_1 ?_;refine o_0 (.bin rfl rfl (vF ig (decide_eq_false δ))) ?_;refine aq ?_;refine cF (an (ae (s_r 2 ?_)));refine a_1 ?_;refine o_0 (.bin rfl rfl (vF ig (decide_eq_false δ))) ?_;refine aq ?_;refine cF (an (ae (s_r 2 ?_)));refine a_1 ?_;refine o_0 (.bin rfl rfl (vF ig (decide_eq_false δ))) ?_;refine aq ?_;refine cF (an (s_r 7 ?_));refine a_3 ?_;refine o_0 ((by first|exact .index_s (r:= .int .u8 1) rfl rfl (λw=>rfl)|exact .index_s (r:= .int .u8 2) rfl rfl (λw=>rfl)|exact .index_s (r:= .int .u8 3) rfl rfl (λw=>rfl)|exact .index_s (r:= .int .u8 4) rfl rfl (λw=>rfl))) ?_;refine a_z ?_;exact ak (t_e (ah _)))
theorem fs_Lens(n:Nat)(h1:1<=n)(hl:n<=12):FS 273 [.v (.int .u64 (n:Int))] (i64 (lenT n)):=by
 have a:=Ix n ω;refine f_c Tryz.func273 ?_;refine r_z 1 ?_;refine ae (cF (an (r_c 3 (a) ?_)));refine a_z ?_;exact ak (t_e (ah _))
theorem G8(L:Lw)(n:Nat)(hn:L.length=n)(h1:1<=n)(hl:n<=12)(hb:∀p∈L,p.length<=1099511627776):
    ESpec Tryz.prog 231 62 1 (mE L) (mE (kS L (n- 1))) 0 n none [.clos 232 [] []] (.tuple #[]):=by
 have a:=es_pdq L n (lenT n) hn h1 hl hb;have b:=fs_Lens n h1 hl;refine ESpec.enter Tryz.func231 rfl ξ rfl rfl rfl ?_ ?_ ?_ rfl ?_;exact ac (aX af af) af;exact cI _;exact cI _;refine r_z 3 ?_;refine r_m 7 ?_;refine c_s (b) ?_;refine a_1 ?_;refine o_1 (.callE2 rfl rfl rfl rfl rfl rfl (a)) ?_;refine aq ?_;exact FinE.none (.inl rfl) rfl rfl
section
variable {B:Lw}{f:Lq->Lq}{i:Nat}
theorem rd_ok{p:Lq}{s t k:Nat}(hB:∀b∈B,Piv b)(hp:bdL p s)(hs:1<=s)(hbt:∀b∈B,bdL b t)(ht:1<=t)(hk:B.length<=k)(h:rbB s t k<=100000000000)(hpl:p.length<=1000)(hbl:∀b∈B,b.length<=1000)(hk2:k<=1000):(∀i,i< B.length->OkRd (rbK p B i) (B.getD (B.length- 1- i) []))/\(rbK p B B.length).length<=1099511627776:=by
 refine⟨λi l=>?_,fo (zw hB hp hs hbt ht B.length (ir _)).2 ω⟩;obtain⟨c,f⟩:=zw hB hp hs hbt ht i ω;have a:=qU (B:=B) (i:=B.length- 1- i) ω;generalize B.getD (B.length- 1- i) []=b at a⊢;have j:2* rbB s t i+t+1<=100000000000:=fo (BF s t (show i+1<=k by omega)) h;have g:=zy s t i;have hb:=hB b a;have d:=dc c ω (a8 b).toNat;have e:=hbl b a;refine⟨by rw[hb.deg];omega,ω,ω,ek (hbt b a) ω,fo d ω,ek (lM (hbt b a) ht d) ω,ek c ω⟩
theorem wu{p:Lq}{s t k:Nat}(hB:∀b∈B,Piv b)(hp:bdL p s)(hs:1<=s)(hbt:∀b∈B,bdL b t)(ht:1<=t)(hk:B.length<=k)(h:rbB s t k<=100000000000)(hpl:p.length<=1000)(hbl:∀b∈B,b.length<=1000)(hk2:k<=1000):FS 81 [.arr (pE p),.arr (mE B)] (.arr (pE (reP p B))):=by
 obtain⟨a,c⟩:=rd_ok hB hp hs hbt ht hk h hpl hbl hk2;exact yl p B ω a c
theorem mE_eq(B:Lw):mE B=(B.map λb=>AV.arr (pE b)).map λz=>[z]:=by simp[mE]
def mpI(f:Lq->Lq)(B:Lw)(i:Nat):Lw:=(B.take i).map f++B.drop i
@[simp] theorem mpI_length (f:Lq->Lq)(B:Lw)(i:Nat):(mpI f B i).length=B.length:=by simp[mpI];omega
theorem mpI_0(f:Lq->Lq)(B:Lw):mpI f B 0=B:=by simp[mpI]
theorem mpI_n(h:B.length<=i):mpI f B i=B.map f:=by simp[mpI,nk h,List.drop_eq_nil_of_le h]
theorem mpI_get{b:Lq}(h:B[i]?=some b):(mpI f B i)[i]?=some b:=by
 have a:=(jY.1 h).1;unfold mpI;rw[D2 χ,OU];simp;rw[show i+(i- min i B.length)=i by omega];exact h
theorem mpI_s{b:Lq}(h:B[i]?=some b):(mpI f B i).set i (f b)=mpI f B (i+1):=by
 have a:=(jY.1 h).1;unfold mpI;rw[Nw _ _ χ,Ey,yv,KM ω,Nj,NT,h,DA a,List.set_cons_zero];simp
def ehS(l:Lw)(k:Nat):Nat->Lw->AState
 |0,_=>⟨[(3,.emp),(7,.arr (mE l)),(8,i64 l.length),(9,i64 k)],[],1,49⟩
 |n+1,out=>⟨[(3,.lsl 1 0 (n+1) none 1),(7,.arr (mE l)),(8,i64 l.length),(9,i64 k)],[(1,some ⟨62,1,mE out⟩)],2,49⟩
theorem Hb(l:Lw)(k:Nat)(out:Lw):ehS l k 0 out=⟨[(3,.emp),(7,.arr (mE l)),(8,i64 l.length),(9,i64 k)],[],1,49⟩:=rfl
theorem CT(l:Lw)(k n:Nat)(out:Lw):ehS l k (n+1) out=⟨[(3,.lsl 1 0 (n+1) none 1),(7,.arr (mE l)),(8,i64 l.length),(9,i64 k)],[(1,some ⟨62,1,mE out⟩)],2,49⟩:=rfl
def ejqS(l:Lw)(k n:Nat)(q:Lq)(f:Lq->Lq)(out:Lw):Nat->AState
 |i=>⟨[(3,.lsl 1 0 (n+1) none 1),(5,.arr (pE q)),(7,.arr (mE l)),(8,i64 l.length),(9,i64 k),(26,i64 ((n+1:Nat):Int)),(27,i64 i)],[(1,some ⟨62,1,mE (mpI f out i)⟩)],2,49⟩
theorem EY(l:Lw)(s:Nat)(hs:1<=s)(hl12:l.length<=12)(hl:∀p∈l,bdL p s/\p.length<=1000)(hE:ecB s l.length<=50000000000):FS 169 [.arr (mE l)] (.arr (mE (ecL l))):=by
 have hml:(mE l).length=l.length:=by simp[mE]
 refine f_c Tryz.func169 ?_;refine r_z 1 ?_;refine r_z 1 ?_;refine ae (r_z 3 ?_);refine aJ (λ_:Unit=>⟨[(3,.arr (mE (ecL l)))],[],1,49⟩) (λ_=>True) ?_ ?_;refine aj (aC (λk=>ehS l k (ecK l k).length (ecK l k)) (λk=>l.length- k) (λk=>k<=l.length) 0 (mN _) ?_ ?_);show SEnt _ (ehS l 0 0 []);rw[Hb];have:=closed_mA l;exact s_f [];intro k hk;have hB:=rF l k;have r:=AE hs hl k;have y:=rD l k;have j:=AF s k;by_cases hlt:k< l.length;obtain⟨p,hp⟩:∃p,l[k]?=some p:=⟨_,eT hlt⟩;have hpd:l.getD k []=p:=by rw[jH,hp];rfl
 obtain⟨S,hp2⟩:=hl p (mc hp);have D:(mE l)[((k:Nat):Int).toNat]?=some [.arr (pE p)]:=jZ hp _ ψ;have a:ecK l (k+1)=ecT (ecK l k) p:=by rw[ecK,hpd]
 have hEk:2* ecB s k+2* rbB s (ecB s k) k+2<=50000000000:=fo (LO s (show k+1<=l.length by omega)) hE;obtain⟨F,G⟩:=rd_ok hB.piv S hs (λb hb=>(r b hb).1) j y ω hp2 (λb hb=>(r b hb).2) ω;obtain⟨q1,q2⟩:=vO hB.piv S hs (λb hb=>(r b hb).1) j y;have hu1:=zy s (ecB s k) k;have w:¬a8 (reP p (ecK l k))< 0->Piv (ecP (reP p (ecK l k))):=λv=>(uY (zv λe=>v (degP_nil.2 e))).1;obtain⟨e1,e2⟩:=LN q1 ω;generalize hu:rbB s (ecB s k) k=u at *
 generalize hO:ecK l k=O at *
 obtain⟨q,hq⟩:∃q,q=reP p O:=⟨_,rfl⟩;have hR:=yl p O ω F G;have V:=λb1 c=>EI p O b1 (some ⟨b1,0,none⟩) (O.map λb=>AV.arr (pE b)).length c ω F G;rw[<-hq] at hR V q1 q2 e1 e2 w;have X:=ce q ω;have N:=lh q ω;have hI:FS 28 [i64 1] (.agg (qC 1)):=dM 1 δ;have hlq:=uL q1 ω;have h11:qs 1<=1:=δ
 have hqsd:=fS 1 (aL q);have K:=eY q (1/ aL q) (ek q1 ω) (show qs _<=_ by omega) ω;rw[show aW q (1/ aL q)=ecP q from rfl] at K;have t:¬a8 q< 0->FS 123 [.agg (qC 1),.agg (qC (aL q))] (.agg (qC (1/ aL q))):=λv=>rf 1 (aL q) (df (zv λe=>v (degP_neg.2 (zv λe'=>e e')))) ω;have n:ecT O p=if a8 q< 0 then O else kS (O.map (λo=>reP o [ecP q])++[ecP q]) O.length:=by rw[hq];rfl
 rcases hm:O.length with _|m
 have J:O=[]:=xi hm;subst J;rw[Hb];refine q_z 1 ?_;refine ae (cT (an (ae (aj (s_r 3 ?_)))));refine i_x D ?_;refine l_1 D ?_;refine a_z ?_;refine ae (r_c 4 (hR) ?_);refine a_z ?_;by_cases v:a8 q< 0;refine r_c 3 (X) ?_;refine d_z ?_;refine cT (ay (r_m 2 ?_));refine a_z ?_;refine⟨k+1,ω,ω,?_⟩;rw[a,n,if_pos v];show SEnt _ (ehS l (k+1) 0 []);rw[Hb];have:=closed_mA l;exact s_f [];have t:=t v;have d:=G8 [ecP q] 1 rfl ω ω (λx Y=>by rw[kI.1 Y];omega);refine r_c 3 (X) ?_;refine d_z ?_;refine cF (an (r_c 7 (hI) ?_));refine c_s (N) ?_;refine c_s (t) ?_;refine c_s (K) ?_;refine a_z ?_;refine ae (r_z 3 ?_);refine aJ (λ_:Unit=>⟨[(3,.emp),(5,.arr (pE (ecP q))),(7,.arr (mE l)),(8,i64 l.length),(9,i64 k)],[],1,49⟩) (λ_=>True) ?_ ?_;refine aj (aC (λ_:Unit=>⟨[(3,.emp),(5,.arr (pE (ecP q))),(7,.arr (mE l)),(8,i64 l.length),(9,i64 k),(26,i64 0),(27,i64 0)],[],1,49⟩) (λ_=>0) (λ_=>True) () trivial ?_ ?_);exact s_x [] (λhs=>LQ) (λhs=>e_60);rintro _ _;refine q_z 1 ?_;refine ae (cF (ay ⟨(),trivial,?_⟩));exact s_x [] (λhs=>LQ) (λhs=>e_60);rintro _ _;refine r_z 5 ?_;refine AWp.ent (st':=⟨[(3,.lsl 1 0 1 none 1),(7,.arr (mE l)),(8,i64 l.length),(9,i64 k)],[(1,some ⟨62,1,mE [ecP q]⟩)],2,49⟩) ?_ ?_;have:=closed_mA l;have:=cI [ecP q];exact s_f [(1,3)];refine r_m 2 ?_;refine a_1 ?_;refine o_1 (.callE2 rfl rfl rfl rfl rfl rfl (d)) ?_;refine aq ?_;refine r_m 2 ?_;refine a_z ?_;refine⟨k+1,ω,ω,?_⟩
 rw[a,n,if_neg v];show SEnt _ (ehS l (k+1) (0+1) (kS ([ecP q]) 0));rw[CT];have:=closed_mA l;exact s_f [(1,3)];have hmO:(mE O).length=m+1:=by simp[mE,hm]
 have hfull:List.take (m+1) (List.drop 0 (mE O))=mE O:=by rw[sr,nk ω]
 have hone:=zX O;rw[CT];refine q_z 1 ?_;refine ae (cT (an (ae (aj (s_r 3 ?_)))));refine i_x D ?_;refine l_1 D ?_;refine a_z ?_;refine ae (s_r 4 ?_);refine a_2 ?_;refine o_0 (.callL (L:=O.map λb=>AV.arr (pE b)) rfl rfl rfl rfl rfl rfl (mE_eq O) (by rw[Ey,hm]) (λz hz=>by obtain⟨b,_,rfl⟩:=sd.1 hz;exact aw b) V) ?_;refine a_z ?_;by_cases v:a8 q< 0;refine r_c 3 (X) ?_;refine d_z ?_;refine cT (ay (r_m 2 ?_));refine a_z ?_;refine⟨k+1,ω,ω,?_⟩;rw[a,n,if_pos v,hm,CT];have:=closed_mA l;exact s_f [(1,3)];have t:=t v;have T:=w v;refine r_c 3 (X) ?_;refine d_z ?_;refine cF (an (r_c 7 (hI) ?_));refine c_s (N) ?_;refine c_s (t) ?_;refine c_s (K) ?_;refine a_z ?_;refine ae (r_z 3 ?_);obtain⟨f,hf⟩:∃f,f=λo=>reP o [ecP q]:=⟨_,rfl⟩;refine aJ (λ_:Unit=>⟨[(3,.lsl 1 0 (m+1) none 1),(5,.arr (pE (ecP q))),(7,.arr (mE l)),(8,i64 l.length),(9,i64 k)],[(1,some ⟨62,1,mE (O.map f)⟩)],2,49⟩) (λ_=>True) ?_ ?_;refine aj (aC (ejqS l k m (ecP q) f O) (λi=>m+1- i) (λi=>i<=m+1) 0 (mN _) ?_ ?_);rw[ejqS.eq_1,mpI_0];exact s_x [(1,3)] (λhs=>LQ) (λhs=>e_61);intro i hi;rw[ejqS.eq_1];have hll:(mE (mpI f O i)).length=m+1:=by simp[mE,hm]
 by_cases hil:i< m+1;obtain⟨o,Q⟩:∃o,O[i]?=some o:=⟨_,eT ω⟩;have U:(mE (mpI f O i))[0+((i:Nat):Int).toNat]?=some [.arr (pE o)]:=jZ (mpI_get Q) _ ψ;obtain⟨H,M⟩:=r o (mc Q)
 have hRo:FS 81 [.arr (pE o),.arr [[.arr (pE (ecP q))]]] (.arr (pE (f o))):=by
  rw[hf];exact wu (B:=[ecP q]) (k:=1) (λc C=>by rw[kI.1 C];exact T) H j (λc C=>by rw[kI.1 C];exact e1) ω (ir _) (by rw[rbB,rbB];omega) M (λc C=>by rw[kI.1 C];omega) ω
 have R:(mE (mpI f O i)).set (0+((i:Nat):Int).toNat) [.arr (pE (f o))]=mE (mpI f O (i+1)):=by rw[Eu,show 0+((i:Nat):Int).toNat=i by simp,mpI_s Q]
 refine q_z 1 ?_;refine ae (cT (an (ae (aj (r_z 2 ?_)))));refine r_m 11 ?_;refine a_5 ?_;refine bZ (.load_l1 rfl rfl U TG.h rfl) rfl rfl ?_;refine a_2 ?_;refine o_1 (.callS1 rfl rfl rfl (.keep (.shut rfl d_n (.nil))) rfl (hRo)) ?_;refine a_1 ?_;refine eK (.store rfl rfl U rfl rfl rfl TS.h (nle rfl)) ?_;refine aq ?_;refine r_m 2 ?_;refine a_z ?_;refine⟨i+1,ω,ω,?_⟩;rw[ejqS.eq_1];refine s_x [(1,3)] (λhs=>LQ) (λhs=>?_)
 ·repeat' (first|exact aF|refine h_c ?_ ?_|exact aM hs R (cI _)|exact bG|refine aB ?_|exact av|refine ai ?_ ?_|exact ao hs (closed_mA l)|exact ao hs (aw _)|exact aZ)
 have he:i=m+1:=ω
 refine q_z 1 ?_;refine ae (cF (ay ⟨(),trivial,?_⟩));rw[mpI_n ω];exact s_x [(1,3)] (λhs=>LQ) (λhs=>e_61);rintro _ _;have Z:=zX (O.map f);have hln2:(mE (O.map f)).length=m+1:=by simp[mE,hm]
 have d:=G8 (O.map f++[ecP q]) (m+1+1) (by simp[hm]) ω ω (λx Y=>by
  rcases n7.1 Y with g|g
  obtain⟨o,Q,rfl⟩:=sd.1 g;obtain⟨H,M⟩:=r o Q;have:=(vO (B:=[ecP q]) (k:=1) (λc C=>by rw[kI.1 C];exact T) H j (λc C=>by rw[kI.1 C];exact e1) ω (ir _)).2;rw[hf];show(reP o [ecP q]).length<=_;omega;rw[kI.1 g];omega)
 refine r_z 5 ?_;refine AWp.ent (st':=⟨[(3,.lsl 1 0 (m+1+1) none 1),(7,.arr (mE l)),(8,i64 l.length),(9,i64 k)],[(1,some ⟨62,1,mE (O.map f++[ecP q])⟩)],2,49⟩) ?_ ?_;refine s_x [(1,3)] (λhs=>?_) (λhs=>?_)
 ·repeat' (first|exact aV|refine aA rfl ?_ ?_|exact ao hs (closed_mA l)|exact aZ)
 ·repeat' (first|exact aF|refine h_c ?_ ?_|exact aM hs (by rw[yc];rfl) (cI _)|exact bG|refine aB ?_|exact av|refine ai ?_ ?_|exact ao hs (closed_mA l)|exact aZ)
 refine r_m 2 ?_;refine a_1 ?_;refine o_1 (.callE2 rfl rfl rfl rfl rfl rfl (d)) ?_;refine aq ?_;refine r_m 2 ?_;refine a_z ?_;refine⟨k+1,ω,ω,?_⟩;rw[a,n,if_neg v,hm,nM,show(O.map (λo=>reP o [ecP q])++[ecP q]).length=m+1+1 by simp[hm],CT,<-hf];have:=closed_mA l;exact s_f [(1,3)];have hge:k=l.length:=ω
 have W:ecK l k=ecL l:=by rw[hge];rfl
 rw[W] at r y hB⊢;rcases hm:(ecL l).length with _|m
 have J:ecL l=[]:=xi hm;rw[J,Hb];refine q_z 1 ?_;refine ae (cF (ay ⟨(),trivial,?_⟩));exact s_e [];have hlen2:(mE (ecL l)).length=m+1:=by simp[mE,hm]
 have E:0+(m+1)<=(mE (ecL l)).length:=ω
 have A:List.take (m+1) (List.drop 0 (mE (ecL l)))=mE (ecL l):=by rw[sr];exact nk ω
 rw[CT];refine q_z 1 ?_;refine ae (cF (ay ⟨(),trivial,?_⟩));refine s_x [] (λhs=>?_) (λhs=>?_)
 ·repeat' (first|exact aV|refine aA rfl ?_ ?_|exact Cv.shut hs rfl (aR rfl) E (aM hs A (cI _))|exact aZ)
 ·repeat' (first|exact aF|refine h_c ?_ ?_|exact bG|refine aB ?_|exact av|refine ai ?_ ?_|exact Cv.shut hs rfl (aR rfl) E (aM hs A (cI _))|exact aZ)
 rintro _ _;refine r_z 2 ?_;exact ak (t_e (closed_mA _))
end
section
variable {r p q g:Lq}{c l a b:Rat}{k:Ke}{n:Nat}{x:Nat->Rat}
theorem AB(h:∀i,coP r i=coP p i- c* coP q i)(x:Rat):ag r x=ag p x- c* ag q x:=by
 have:=eG (p:=r) (q:=dC p (aW q c)) (λi=>by rw[jE,bY,h];grind) x;rw[cv,aT] at this;grind
theorem qM{B:Lq}(h:∀i,coP r i=coP p i- c* coP q i)(a b:Rat):inQ (aG B r) a b=inQ (aG B p) a b- c* inQ (aG B q) a b:=by
 have f:am (aG B r)=am (dC (aG B p) (aW (aG B q) c)):=eM λx=>by
  rw[az,cv,aT,az,az,AB h];grind
 have e:∀i,coP (aG B r) i=coP (aG B p) i- c* coP (aG B q) i:=λi=>by
  rw[<-cu (aG B r),f,cu,jE,bY];grind
 have d:∀y,ag (aH (aG B r)) y=ag (aH (aG B p)) y- c* ag (aH (aG B q)) y:=λy=>AB (λi=>by
  rw[dd,dd,dd];split;grind;rw[e,LK,LK,LK];grind) y
 unfold inQ;rw[d,d];grind
theorem GQ(B:Lq)(a b:Rat):inQ (aG B []) a b=0:=by
 have:=qM (B:=B) (r:=[]) (p:=[]) (q:=[]) (c:=1) (λi=>by rw[show coP [] i=0 from rfl];grind) a b;grind
theorem r8{α:Type}{f g h:α->Rat}{c:Rat}(H:∀p,f p=g p- c* h p):∀k:List α,fX f k=fX g k- c* fX h k
 |[]=>by rw[fX,fX,fX];grind
 |p::k=>by rw[fX,fX,fX,H p,r8 H k];grind
def SolE(k:Ke)(l a b:Rat)(g u:Lq):Prop:=∀x,ag u x=ag g x+l* fX (λp=>ag p.1 x* inQ (aG p.2 u) a b) k
theorem SolE.comb(hp:SolE k l a b g p)(hq:SolE k l a b [] q)(h:∀i,coP r i=coP p i- c* coP q i):SolE k l a b g r:=λx=>by
 have e:=hp x;have d:=hq x;rw[aS] at d;have j:=r8 (f:=λp:Lq×Lq=>ag p.1 x* inQ (aG p.2 r) a b) (g:=λz=>ag z.1 x* inQ (aG z.2 p) a b) (h:=λz=>ag z.1 x* inQ (aG z.2 q) a b) (c:=c) (λz=>by rw[qM h];grind) k;rw[AB h,j,e,d];grind
theorem SolE.nil(k:Ke)(l a b:Rat):SolE k l a b [] []:=λx=>by
 have d:=r8 (f:=λp:Lq×Lq=>ag p.1 x* inQ (aG p.2 []) a b) (g:=λ_=>0) (h:=λ_=>0) (c:=1) (λz=>by rw[GQ];grind) k;rw[d,aS];grind
theorem SolE.ext(hp:SolE k l a b g p)(h:∀i,coP r i=coP p i):SolE k l a b g r:=
 hp.comb (c:=0) (SolE.nil k l a b) λi=>by rw[h];grind
theorem sQ_sh(f:Nat->Rat):∀n,sQ f (n+1)=f 0+sQ (λi=>f (i+1)) n
 |0=>by rw[sQ,sQ,sQ];grind
 |n+1=>by rw[sQ,sQ_sh f n,sQ];grind
theorem uA{α:Type}(f:α->Rat)(d:α):∀k:List α,fX f k=sQ (λj=>f (k.getD j d)) k.length
 |[]=>rfl
 |p::k=>by
  rw[fX,uA f d k,vX,sQ_sh];rfl
theorem Bj{α:Type}(F:α->Rat)(d:α)(k:List α)(c:Lq)(hc:c.length=k.length):fX (λz=>F z.1* z.2) (k.zip c)=sQ (λj=>F (k.getD j d) * coP c j) k.length:=by
 rw[uA _ (d,0),List.length_zip,hc,Nat.min_self];refine cw _ λj e=>?_;have b:k[j]?=some k[j]:=eT e;have a:c[j]?=some c[j]:=eT ω;unfold coP;have f:(k.zip c)[j]?=some (k[j],c[j]):=by rw[List.getElem?_zip_eq_some];exact⟨b,a⟩
 rw[jH,f,jH,b,jH,a];rfl
theorem Bo(k:Ke)(c:Lq)(hc:c.length=k.length)(x:Rat):ag (smK k c k.length) x=sQ (λj=>ag (k.getD j ([],[])).1 x* coP c j) k.length:=by
 have h:=xT x k c [] hc;rw[aS] at h;rw[<-Bj (λp:Lq×Lq=>ag p.1 x) ([],[]) k c hc];unfold smK;rw[qj,h];grind
theorem Bn(B:Lq)(a b:Rat):∀(k:Ke) (c o:Lq),c.length=k.length->inQ (aG B (uk k c o)) a b=inQ (aG B o) a b+fX (λp=>inQ (aG B p.1.1) a b* p.2) (k.zip c)
 |[],[],o,_=>by rw[uk];show _=_+0;grind
 |p::k,[],_,h=>by cases h
 |[],z::c,_,h=>by cases h
 |p::k,z::c,o,h=>by
  have e:=qM (B:=B) (r:=smF z o p) (p:=o) (q:=p.1) (c:= -z) (λi=>by unfold smF;rw[fi,bY];grind) a b;rw[uk,List.tail_cons,fv,Bn B a b k c _ (by simpa using h),e,Oi,fX];grind
theorem F5(B:Lq)(a b:Rat)(k:Ke)(c:Lq)(hc:c.length=k.length):inQ (aG B (smK k c k.length)) a b=sQ (λj=>inQ (aG B (k.getD j ([],[])).1) a b* coP c j) k.length:=by
 rw[<-Bj (λp:Lq×Lq=>inQ (aG B p.1) a b) ([],[]) k c hc];unfold smK;rw[qj,Bn B a b k c [] hc,GQ];grind
theorem JJ{A:Nat->Nat->Rat}{c0:Rat}{r:Nat->Rat}{i:Nat}(hx:Sol c0 (svM A l r n) n x)(hi:i< n):x i=l* sQ (λj=>A i j* x j) n+c0* r i:=by
 have h:=hx i hi;rw[show svM A l r n i n=r i from if_pos rfl,cw (g:=λj=>(if j=i then x i else 0)- l* (A i j* x j)) n λj a=>?_,ot,jV,if_pos hi] at h;grind;unfold svM;rw[if_neg ω];by_cases e:j=i;subst e;rw[if_pos rfl,if_pos rfl];grind;rw[if_neg e,if_neg e];grind
theorem rJ{j:Nat}(hj:j< n):coP (aI n x) j=x j:=by rw[ie,if_pos hj]
theorem Jv{r:Nat->Rat}(hx:Sol 0 (svM (maK k a b) l r k.length) k.length x):SolE k l a b [] (smK k (aI k.length x) k.length):=λt=>by
 rw[aS,Bo k _ ψ,uA _ ([],[]),cw (g:=λj=>(ag (k.getD j ([],[])).1 t* inQ (aG (k.getD j ([],[])).2 (smK k (aI k.length x) k.length)) a b) * l) k.length λj c=>?_,vz];grind;rw[F5 _ a b k _ ψ,rJ c,cw (g:=λi=>maK k a b j i* x i) k.length λi d=>by rw[rJ d];rfl];have:=JJ hx c;generalize sQ (λi=>maK k a b j i* x i) k.length=z at *
 rw[this];grind
theorem Ju(hx:Sol 1 (svM (maK k a b) l (λt=>coP (rhK k g a b) t) k.length) k.length x):SolE k l a b g (ec g (aW (smK k (aI k.length x) k.length) l)):=λt=>by
 have e:∀j,j< k.length->inQ (aG (k.getD j ([],[])).2 (ec g (aW (smK k (aI k.length x) k.length) l))) a b=x j:=λj d=>by
  rw[qM (p:=g) (q:=smK k (aI k.length x) k.length) (c:= -l) (λi=>by rw[fi,bY];grind),F5 _ a b k _ ψ,cw (g:=λi=>maK k a b j i* x i) k.length λi m=>by rw[rJ m];rfl];have f:=JJ hx d
  have h:coP (rhK k g a b) j=inQ (aG (k.getD j ([],[])).2 g) a b:=by
   unfold coP rhK;rw[jH,jH,wS,eT d];rfl
  rw[h] at f;generalize sQ (λi=>maK k a b j i* x i) k.length=z at *
  rw[f];grind
 rw[cb,aT,Bo k _ ψ,uA _ ([],[]),cw (g:=λj=>ag (k.getD j ([],[])).1 t* inQ (aG (k.getD j ([],[])).2 (ec g (aW (smK k (aI k.length x) k.length) l))) a b) k.length λj d=>by rw[e j d,rJ d]];grind
theorem mem_frL{L:Ln}{f:Nat}:f∈frL L n↔f< n/\f∉L:=by simp[frL]
theorem G1(M:Mx)(n:Nat):∀c,(frL (slM M n c).2 c).length+(slM M n c).2.length=c
 |0=>rfl
 |c+1=>by
  have g:=G1 M n c;have a:=eA M n c
  have f:c∉ (slM M n c).2:=λh=>by
   obtain⟨i,d⟩:=NE h;have:=a.lt i c d;omega
  rw[slM];unfold slC;cases pvR (slM M n c).1 n (slM M n c).2.length c with
  |none=>
   show(frL (slM M n c).2 (c+1)).length+(slM M n c).2.length=c+1;rw[uX (by simpa using f),zq,xb];omega
  |some p=>
   show(frL ((slM M n c).2++[c]) (c+1)).length+((slM M n c).2++[c]).length=c+1
   have e:frL ((slM M n c).2++[c]) c=frL (slM M n c).2 c:=by
    unfold frL;refine List.filter_congr λj b=>?_;have:=xd.1 b;simp;omega
   rw[Aw ψ,e,zq,xb];omega
theorem Mq{M:Mx}{n s:Nat}(h:bdM M n s):∀c,c<=n->bdM (slM M n c).1 n (slB s (slM M n c).2.length)
 |0,_=>h
 |c+1,hc=>by
  have b:=Mq h c ω;have a:=Mr b (eA M n c).len (show c< n by omega);rw[slM]
  revert a
  unfold slC;cases pvR (slM M n c).1 n (slM M n c).2.length c with
  |none=>exact λ_=>b
  |some p=>
   intro a;show bdM _ n (slB s ((slM M n c).2++[c]).length);rw[zq,xb,slB];exact a
end
theorem Hv(x y:Rat):∀(k:Ke) (s:Rat),k.foldl (λs p=>s+ag p.1 x* ag p.2 y) s=s+fX (λp=>ag p.1 x* ag p.2 y) k
 |[],s=>by rw[fX];show s=_;grind
 |p::k,s=>by rw[OC,Hv x y k,fX];grind
theorem at_sum(k:Ke)(x y:Rat):atK k x y=fX (λp=>ag p.1 x* ag p.2 y) k:=by
 unfold atK atS;rw[qj,Hv];grind
theorem Jz:∀n,sQ (λ_=>0) n=0
 |0=>rfl
 |n+1=>by rw[sQ,Jz n];grind
theorem Ge(V u:Lq)(x:Nat->Rat)(t:Rat)(n:Nat):∀k:Ke,sQ (λi=>ag V (x i) * fX (λp=>ag p.1 t* ag p.2 (x i)) k* ag u (x i)) n=fX (λp=>ag p.1 t* sQ (λi=>ag V (x i) * ag (aG p.2 u) (x i)) n) k
 |[]=>by
  rw[fX,cw (g:=λ_=>0) n λi _=>by show ag V (x i) * fX _ [] * _=_;rw[fX];grind,Jz]
 |p::k=>by
  rw[fX,<-Ge V u x t n k,cw (g:=λi=>ag V (x i) * ag (aG p.2 u) (x i) * ag p.1 t+ag V (x i) * fX (λp=>ag p.1 t* ag p.2 (x i)) k* ag u (x i)) n λi _=>by
   show ag V (x i) * fX _ (p::k) * _=_;rw[fX,az];grind,vC,vz]
  grind
def ruS(k:Ke)(l:Rat)(g u V:Lq)(x:Nat->Rat)(t:Rat):Nat->Rat
 |0=>ag g t
 |i+1=>ruS k l g u V x t i+l* ag V (x i) * atK k t (x i) * ag u (x i)
theorem D5(k:Ke)(l:Rat)(g u V:Lq)(x:Nat->Rat)(t:Rat):∀n,ruS k l g u V x t n=ag g t+l* sQ (λi=>ag V (x i) * atK k t (x i) * ag u (x i)) n
 |0=>by rw[ruS,sQ];grind
 |n+1=>by rw[ruS,D5 k l g u V x t n,sQ];grind
theorem ru_sol{k:Ke}{l a b:Rat}{g u V:Lq}{x:Nat->Rat}{n:Nat}(h:SolE k l a b g u)(he:∀p∈k,sQ (λi=>ag V (x i) * ag (aG p.2 u) (x i)) n=itP a b (aG p.2 u))(t:Rat):ruS k l g u V x t n=ag u t:=by
 rw[D5,h t,cw (g:=λi=>ag V (x i) * fX (λp=>ag p.1 t* ag p.2 (x i)) k* ag u (x i)) n λi _=>by rw[at_sum],Ge];congr 2
 have:∀c:Ke,(∀p∈c,p∈k)->fX (λp=>ag p.1 t* sQ (λi=>ag V (x i) * ag (aG p.2 u) (x i)) n) c=fX (λp=>ag p.1 t* inQ (aG p.2 u) a b) c:=λc=>by
  induction c with
  |nil=>intro _;rfl
  |cons p c f=>
   intro d;rw[fX,fX,f λq e=>d q (lQ _ e),he p (d p (mu ..))];rfl
 exact this k λp hp=>hp
theorem ru_find{k:Ke}{l a b:Rat}{g u V:Lq}{x:Nat->Rat}{n:Nat}{A:Mx}(hs:∀t,ruS k l g u V x t n=ag u t)(hA:gjM (svM (noA k (aI n x) (aI n λi=>ag V (x i))) l (λt=>coP ((aI n x).map (ag g)) t) n) n n=some A):
    (aI n λi=>A i n/ A i i)=aI n λi=>ag u (x i):=by
 have d:∀(f:Nat->Rat) j,j< n->coP (aI n f) j=f j:=λf j c=>by
  unfold coP;rw[jH,lI _ c];rfl
 have m:Sol 1 (svM (noA k (aI n x) (aI n λi=>ag V (x i))) l (λt=>coP ((aI n x).map (ag g)) t) n) n (λi=>ag u (x i)):=λi h=>by
  have p:=hs (x i);rw[D5] at p
  have e1:svM (noA k (aI n x) (aI n λi=>ag V (x i))) l (λt=>coP ((aI n x).map (ag g)) t) n i n=ag g (x i):=by
   unfold svM;rw[if_pos rfl];show coP ((aI n x).map (ag g)) i=_;unfold coP;rw[jH,wS,lI _ h];rfl
  rw[e1,cw (g:=λj=>(if j=i then ag u (x i) else 0)+ag V (x j) * atK k (x i) (x j) * ag u (x j) * -l) n λj c=>by
   show svM _ _ _ _ _ _* ag u (x j)=_;unfold svM noA;rw[if_neg ω,d x i h,d x j c,d _ j c];by_cases e:j=i;rw[if_pos e,if_pos e,e];grind;rw[if_neg e,if_neg e];grind,vC,jV,if_pos h,vz]
  grind
 have o:=Ae hA (EG hA) m;exact DQ o
theorem in_tame{p u:Lq}{a b:Rat}{t:Nat}(hp:p.length<=4)(bp:bdL p 20)(hu:u.length<=6)(bu:bdL u t)(ht:1<=t)(ht2:t<=100000000)(qa:qs a<=20)(qb:qs b<=20):gQ p u/\OkIn (aG p u) a b/\qs (inQ (aG p u) a b)<=80* t+2600:=by
 have m1:=mO bp bu ω ht;have l1:=jl p u;have e1:p.length* (20+t+1)<=4* (20+t+1):=mC _ hp;have m2:=bdL_mono' (b:=4* t+85) m1 ω;have i1:=Ca m2 ω ω;have m:=lx (aG p u);have q:=mxL_le bp ω;have o:=mxL_le bu ht;have l:p.length* (mxL p+mxL u+1)<=4* (20+t+1):=vj hp ω
 have ev:∀y:Rat,qs y<=20->eg (aH (aG p u)) y/\qs (ag (aH (aG p u)) y)<=40* t+1271:=λy f=>by
  have k:=jP f i1;have i:=mxL_le i1 ω;have n:(aH (aG p u)).length* (4* t+85+21+20+1)<=10* (4* t+85+21+20+1):=mC _ ω;have j:(aH (aG p u)).length* (mxL (aH (aG p u))+qs y+1)<=10* (4* t+127):=vj ω ω;exact⟨⟨ω,ω⟩,ω⟩
 obtain⟨g,e⟩:=ev a qa;obtain⟨d,c⟩:=ev b qb;refine⟨⟨ω,ω,ω,ω⟩,⟨ek m2 ω,ω,d,g,ω⟩,?_⟩;have h:=po (ag (aH (aG p u)) b) (ag (aH (aG p u)) a);unfold inQ;omega
theorem p8{k:Ke}(hk:TmK k){c:Lq}{C:Nat}(hc:∀i,qs (coP c i)<=C)(hC:C<=10000000000):(∀i,i<=k.length->bdL (smK k c i) (i* (C+22)+1)/\(smK k c i).length<=4)/\∀i p,k[i]?=some p->OkSm k c i p:=by
 have g:=hk.l
 have d:∀i,i<=k.length->bdL (smK k c i) (i* (C+22)+1)/\(smK k c i).length<=4:=λi=>by
  induction i with
  |zero=>exact λ_=>⟨λq h=>(by cases h),mN _⟩
  |succ i m=>
   intro f;obtain⟨b1,l1⟩:=m ω;obtain⟨p,hp⟩:∃p,k[i]?=some p:=⟨_,eT f⟩;have a:=mc hp;have s1:=lM (hk.b p a).1 ω (hc i);have s2:=du p.1 (coP c i);have j:=(hk.n p a).1;have o:=Hw b1 s1 ω ω;have r:=k6 (smK k c i) (aW p.1 (coP c i));rw[smK_s hp];unfold smF;exact⟨bdL_mono' o (by rw[Ni];omega),ω⟩
 refine⟨d,λi p hp=>?_⟩;have f:=(jY.1 hp).1;obtain⟨b1,l1⟩:=d i ω;have a:=mc hp;have e:i* (C+22)<=3* (C+22):=mC _ ω;have s1:=lM (hk.b p a).1 ω (hc i);have s2:=du p.1 (coP c i);have j:=(hk.n p a).1;exact⟨ek (hk.b p a).1 ω,ω,fo (hc i) ω,ek b1 ω,ω,ek s1 ω,ω⟩
theorem ta_tame{k:Ke}{l a b:Rat}{g:Lq}(hk:TmK k)(hke:qw k)(hg:g.length<=5)(bg:bdL g 20)(qL:qs l<=20)(qa:qs a<=20)(qb:qs b<=20)(ab:a<=b):OkTa k l g a b 4300:=by
 have e:=hk.l;have c:=λp hp u (hu:u.length<=5) bu=>in_tame (u:=u) (t:=20) (a:=a) (b:=b) (hk.n p hp).2 (hk.b p hp).2 (fo hu δ) bu ω ω qa qb;have m:a8 g<=20:=by have:=Hg g (n:=4) ω;omega
 have f:∀i,i< k.length->k.getD i ([],[])∈k:=λi d=>by
  rw[jH,eT d];exact FH d
 refine⟨hke,by unfold sm;omega,by unfold sm;omega,ab,m,ω,⟨⟨ω,λp hp q o=>?_⟩,λi j d r=>?_,?_⟩,λp hp=>?_⟩;have h:=c p hp q.1 (by have:=(hk.n q o).1;omega) (hk.b q o).1;exact⟨h.1,h.2.1⟩;have h:=(c _ (f i d) (k.getD j ([],[])).1 (by have:=(hk.n _ (f j r)).1;omega) (hk.b _ (f j r)).1).2.2;unfold maK;omega;have:slB 4300 k.length<=slB 4300 3:=jI e;exact fo this δ;have h:=c p hp g hg bg;exact⟨h.1,h.2.1,ω⟩
def bK(k:Ke)(l:Rat)(g:Lq)(a b:Rat):Lw:=ecL (zsK k (syM k l (rhK k g a b) a b))
structure Fre (k:Ke)(l a b:Rat)(B:Lw):Prop where
 bas:Bas B
 sol:∀p∈B,SolE k l a b [] p
 bd:∀p∈B,bdL p 1400000/\p.length<=4
 len:B.length<=3
theorem Ms{k:Ke}{l a b:Rat}{g:Lq}(h:OkTa k l g a b 4300):bdM (svM (maK k a b) l (λt=>coP (rhK k g a b) t) k.length) k.length 4300:=h.sy.bd λi c=>by
 have e:coP (rhK k g a b) i=inQ (aG k[i].2 g) a b:=by
  unfold coP rhK;rw[jH];simp[c]
 rw[e];exact(h.rh _ (FH c)).2.2
theorem Jj{n C:Nat}{x:Nat->Rat}(h:∀j,j< n->qs (x j)<=C)(hC:1<=C)(i:Nat):qs (coP (aI n x) i)<=C:=by
 rw[ie];split;exact h i (by assumption);exact fo (by decide:qs 0<=1) hC
section
variable {k:Ke}{l a b:Rat}{g:Lq}
theorem vk(h:OkTa k l g a b 4300)(hkl:k.length<=3):∃C r,(syM k l (rhK k g a b) a b).2.length=r/\(frL (syM k l (rhK k g a b) a b).2 k.length).length+r=k.length/\1<=C/\C<=300000/\
    (∀f∈frL (syM k l (rhK k g a b) a b).2 k.length,∀i,qs (coP (j4 (syM k l (rhK k g a b) a b).1 k.length (syM k l (rhK k g a b) a b).2 f) i)<=C)/\(∀i,qs (coP (nr k l g a b) i)<=C)/\∀m,m+r<=3->ecB (3* (C+22)+1) m<=1400000/\rbB (3* (C+22)+50) (ecB (3* (C+22)+1) m) m<=10000000:=by
 have hb:=Mq (Ms h) k.length (ir _);have q:=eA (svM (maK k a b) l (λt=>coP (rhK k g a b) t) k.length) k.length k.length;have n:=G1 (svM (maK k a b) l (λt=>coP (rhK k g a b) t) k.length) k.length k.length;unfold nr;change∃C r,(slM (svM (maK k a b) l (λt=>coP (rhK k g a b) t) k.length) k.length k.length).2.length=r/\_;unfold syM;generalize slM (svM (maK k a b) l (λt=>coP (rhK k g a b) t) k.length) k.length k.length=A at *
 have p:∀j,j∈A.2->A.2.idxOf j< k.length:=λj o=>by
  have y:=List.idxOf_lt_length_of_mem o;have x:=q.len2;omega
 have w:1<=slB 4300 A.2.length:=fo δ (jI (s:=4300) (mN _));refine⟨slB 4300 A.2.length+1,A.2.length,rfl,n,ω,?_,λf u i=>?_,λi=>?_,λm c=>?_⟩;have:slB 4300 A.2.length<=slB 4300 3:=jI ω;have e:slB 4300 3=275242:=δ
 omega;refine Jj (λj o=>?_) ω i;unfold zerX;split
 ·rename_i c
  rw[fa];exact fo (hb _ _ (p j (by simpa using c)) (by have:=(mem_frL.1 u).1;omega)) ω
 split;exact fo (by decide:qs 1<=1) ω;exact fo (by decide:qs 0<=1) ω;refine Jj (λj o=>?_) ω i;unfold oneX;split
 ·rename_i c
  exact fo (hb _ _ (p j (by simpa using c)) (ir _)) ω
 exact fo (by decide:qs 0<=1) ω;generalize A.2.length=r at c;have v:r=0\/r=1\/r=2\/r=3:=ω
 have d:m=0\/m=1\/m=2\/m=3:=ω
 rcases v with rfl|rfl|rfl|rfl <;> rcases d with rfl|rfl|rfl|rfl <;> first|omega|decide
theorem IH(hk:TmK k)(h:OkTa k l g a b 4300):Fre k l a b (bK k l g a b):=by
 obtain⟨C,r,e1,e2,B,A,w,_,hs⟩:=vk h hk.l;have x:=eA (svM (maK k a b) l (λt=>coP (rhK k g a b) t) k.length) k.length k.length;have j:=hk.l;have v:(zsK k (syM k l (rhK k g a b) a b)).length+r=k.length:=by rw[<-e2];simp[zsK]
 have o:=rD (zsK k (syM k l (rhK k g a b) a b)) (zsK k (syM k l (rhK k g a b) a b)).length
 have m:∀p∈zsK k (syM k l (rhK k g a b) a b),bdL p (3* (C+22)+1)/\p.length<=4:=λp hp=>by
  obtain⟨z,d,rfl⟩:=sd.1 hp;obtain⟨f,n,rfl⟩:=sd.1 d;obtain⟨s1,s2⟩:=(p8 hk (w f n) ω).1 k.length (ir _);have e:k.length* (C+22)<=3* (C+22):=mC _ j;exact⟨bdL_mono' s1 ω,s2⟩
 obtain⟨t1,t2⟩:=hs (zsK k (syM k l (rhK k g a b) a b)).length ω;have i:=AE ω m (zsK k (syM k l (rhK k g a b) a b)).length;refine⟨rF _ _,Hd (Q:=SolE k l a b []) (λp q c r hp s h=>hp.comb s h) (SolE.nil k l a b) _ (λp hp=>?_) _,λp hp=>⟨bdL_mono' (i p hp).1 t1,(i p hp).2⟩,by show(ecK _ _).length<=3;omega⟩;obtain⟨z,d,rfl⟩:=sd.1 hp;obtain⟨f,n,rfl⟩:=sd.1 d;obtain⟨u,y⟩:=mem_frL.1 n;exact Jv (r:=λt=>coP (rhK k g a b) t) ((oi k.length).1 (x.zerX u y))
theorem ech_fs(hk:TmK k)(h:OkTa k l g a b 4300):FS 169 [.arr (mE (zsK k (syM k l (rhK k g a b) a b)))] (.arr (mE (bK k l g a b))):=by
 obtain⟨C,r,e1,e2,o,n,j,_,hs⟩:=vk h hk.l;have c:=hk.l;have i:(zsK k (syM k l (rhK k g a b) a b)).length+r=k.length:=by rw[<-e2];simp[zsK]
 refine EY _ (3* (C+22)+1) ω ω (λp hp=>?_) (fo (hs _ ω).1 δ);obtain⟨z,d,rfl⟩:=sd.1 hp;obtain⟨f,m,rfl⟩:=sd.1 d;obtain⟨s1,s2⟩:=(p8 hk (j f m) ω).1 k.length (ir _);have e:k.length* (C+22)<=3* (C+22):=mC _ c;exact⟨bdL_mono' s1 ω,ω⟩
end
section
variable {k:Ke}{l a b:Rat}{g:Lq}
theorem HM(hk:TmK k)(h:OkTa k l g a b 4300)(hg:g.length<=5)(bg:bdL g 20)(qL:qs l<=20):
    ∃(u:Lq) (B:Lw) (e:Int),FS 27 [.agg (eqC k l g),.agg (spC a b)] (.tup [.arr (pE u),.arr (mE B),i64 e])/\u.length<=5/\bdL u 10000000/\(∀p∈bK k l g a b,coP u (dg p)=0)/\(lU k.length (syM k l (rhK k g a b) a b).1 (syM k l (rhK k g a b) a b).2=true/\u=[]/\B=[]/\e=12\/lU k.length (syM k l (rhK k g a b) a b).1 (syM k l (rhK k g a b) a b).2=false/\am u=u/\e=0/\B=bK k l g a b/\SolE k l a b g u):=by
 cases hN:lU k.length (syM k l (rhK k g a b) a b).1 (syM k l (rhK k g a b) a b).2 with
 |true=>exact⟨[],[],12,yp k l g a b 4300 h hN,mN _,λq s=>(by cases s),λ_ _=>rfl,.inl ⟨rfl,rfl,rfl,rfl⟩⟩
 |false=>
  obtain⟨C,r,e1,e2,V,S,F,K,hs⟩:=vk h hk.l;have o:=IH hk h;have m:=hk.l;have M:=eA (svM (maK k a b) l (λt=>coP (rhK k g a b) t) k.length) k.length k.length;have L:(zsK k (syM k l (rhK k g a b) a b)).length+r=k.length:=by rw[<-e2];simp[zsK]
  have j:=rD (zsK k (syM k l (rhK k g a b) a b)) (zsK k (syM k l (rhK k g a b) a b)).length
  have w:∀p∈zsK k (syM k l (rhK k g a b) a b),bdL p (3* (C+22)+1)/\p.length<=4:=λp hp=>by
   obtain⟨z,v,rfl⟩:=sd.1 hp;obtain⟨f,x,rfl⟩:=sd.1 v;obtain⟨s1,s2⟩:=(p8 hk (F f x) ω).1 k.length (ir _);have e:k.length* (C+22)<=3* (C+22):=mC _ m;exact⟨bdL_mono' s1 ω,s2⟩
  have A:=AE ω w (zsK k (syM k l (rhK k g a b) a b)).length;obtain⟨t1,t2⟩:=hs (zsK k (syM k l (rhK k g a b) a b)).length ω;obtain⟨s1,s2⟩:=p8 hk K ω;obtain⟨D,Y⟩:=s1 k.length (ir _);have e:k.length* (C+22)<=3* (C+22):=mC _ m;have E:=lM D ω qL;have T:=du (smK k (nr k l g a b) k.length) l;have O:=Hw bg E ω ω;have X:=k6 g (aW (smK k (nr k l g a b) k.length) l);have y:OkSu k l g a b:=⟨s2,ek D ω,ω,by unfold sm;omega,ek bg ω,ek E ω,ω⟩;have G:bdL (syU k l g a b) (3* (C+22)+50):=bdL_mono' O ω;have U:(syU k l g a b).length<=5:=by show(ec _ _).length<=5;omega
  have d:∀p∈bK k l g a b,Piv p:=o.bas.piv;have n:∀p∈bK k l g a b,bdL p (ecB (3* (C+22)+1) (zsK k (syM k l (rhK k g a b) a b)).length):=λp hp=>(A p hp).1;have i:=AF (3* (C+22)+1) (zsK k (syM k l (rhK k g a b) a b)).length;have R:=wu d G ω n i j ω ω (λp hp=>by have:=(o.bd p hp).2;omega) ω;obtain⟨J,W⟩:=vO d G ω n i j;refine⟨_,_,0,Ir k l g a b 4300 h y hN (λf x=>(p8 hk (F f x) ω).2) _ (ech_fs hk h) R,ω,bdL_mono' J t2,λp hp=>?_,.inr ⟨rfl,by rw[pn,bU],rfl,rfl,?_⟩⟩;rw[pn,cu];exact zD _ _ _ rfl d o.bas.up p hp;have N:=Ju ((oi k.length).1 (M.oneX (BT hN)));rw[pn];exact(zG (Q:=SolE k l a b g) (H:=SolE k l a b []) (λp q c r hp s h=>hp.comb s h) _ _ _ rfl (λp hp=>⟨d p hp,o.sol p hp⟩) N).ext (cu _)
theorem Jt(hk:TmK k)(h:OkTa k l g a b 4300)(hg:g.length<=5)(bg:bdL g 20)(qL:qs l<=20):
    ∃(u:Lq) (B:Lw) (e:Int),FS 27 [.agg (eqC k l g),.agg (spC a b)] (.tup [.arr (pE u),.arr (mE B),i64 e])/\u.length<=5/\bdL u 10000000/\(∀p∈bK k l g a b,coP u (dg p)=0)/\(e=12\/e=0/\B=bK k l g a b/\SolE k l a b g u):=by
 obtain⟨u,B,e,f,c,j,d,i⟩:=HM hk h hg bg qL;exact⟨u,B,e,f,c,j,d,i.elim (λh=> .inl h.2.2.2) λh=> .inr h.2.2⟩
end

end Go.Proofs.YtjmkjicckobojaaGreatDoor
