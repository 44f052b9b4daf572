/- Part O25 of the proof. -/
import Derived.Test.YtdjfjpeoddmamaaGreatDoorO24
import Derived.Shelf.Strconv.Itoa3
import Derived.Shelf.Strings.Repeat
set_option linter.all false
namespace Go.Proofs.YtdjfjpeoddmamaaGreatDoor
open Go.Abs
set_option maxRecDepth 20000
theorem pn_(m p:List Rat)(l r:Bool)(a b:Rat)(h:okOf m p):FS 114 [.agg (wC m l r (qC a) (qC b)),.arr (pE p)] (.agg (qC (ofP m p))):=
 fs_of p m l r a b (mxL p) (mxL m) (ch_ p) (ch_ m) (bX_ p) (bX_ m) h.1 h.2.1 h.2.2
theorem eH_(p q:List Rat)(o:okMul p q):FS 52 [.arr (pE p),.arr (pE q)] (.arr (pE (mulP p q))):=
 ky_ p q (mxL p) (mxL q) (ch_ p) (ch_ q) (bX_ p) (bX_ q) o.1 o.2.1 o.2.2.1 o.2.2.2
def ldC(W:List AV)(p q:AV)(nm:List AV)(a b:AV):List AV:=W++[p,q]++nm++[a,b]
def ldF(m:List Rat)(l r:Bool)(a b:Rat)(k:Nat):List AV:=ldC (wC m l r (qC a) (qC b)) (.arr (pE (ldr m k).1)) (.arr (pE (ldr m k).2.1)) (qC (ldr m k).2.2) (.arr (pE (sqL (ldAk m) k))) (.arr (pE (sqL (ldB m) k)))
theorem eV_(m:List Rat)(l r:Bool)(a b:Rat)(k:Nat):∀c∈ldF m l r a b k,Closed c:=fun c hc=>by
 unfold ldF ldC at hc;rcases List.mem_append.1 hc with hc|hc
 rcases List.mem_append.1 hc with hc|hc
 rcases List.mem_append.1 hc with hc|hc
 exact a7_ (.inr ⟨a,rfl⟩) (.inr ⟨b,rfl⟩) c hc;exact ab_ (aD_ _) (ab_ (aD_ _) ah_) c hc;exact br_ _ c hc;exact ab_ (aD_ _) (ab_ (aD_ _) ah_) c hc
theorem cF_{r:Ren}{hp hp':Nat→Option ABlk}:∀{a b c d:List AV},CvL r hp hp' a b→CvL r hp hp' c d→CvL r hp hp' (a++c) (b++d)
 |[],_,_,_,h,h2=>by cases h;exact h2
 |x::xs,_,_,_,⟨y,ys,e,h1,h3⟩,h2=>by subst e;exact⟨y,_,rfl,h1,cF_ h3 h2⟩
theorem jS_{r:Ren}{hp hp':Nat→Option ABlk}(W:List AV){p q a b p' q' a' b':AV}{nm nm':List AV}(h:Shr r hp hp')(hW:∀c∈W,Closed c)(h1:Cv r hp hp' p p')(hq:Cv r hp hp' q q')(hn:CvL r hp hp' nm nm')(ha:Cv r hp hp' a a')(hb:Cv r hp hp' b b'):CvL r hp hp' (ldC W p q nm a b) (ldC W p' q' nm' a' b'):=
 cF_ (cF_ (cF_ (CvL.clo h hW) (ag_ h1 (ag_ hq ao_))) hn) (ag_ ha (ag_ hb ao_))
theorem d0_{r:Ren}{hp hp':Nat→Option ABlk}{id n:Nat}{cap:Option Nat}{B:ABlk}{L:List Rat}(h:Shr r hp hp')(hi:cellF hp id=some B)(hi':Dead r hp' id)(he:B.es=pE L)(hn:n=L.length):Cv r hp hp' (.lsl id 0 n cap 3) (.arr (pE L)):=
 Cv.shut h hi hi' (by rw[he,hn];simp) (aC_ h (by rw[he,List.drop_zero];exact List.take_of_length_le (by simp[hn])) (aK_ _))
theorem fZ_{r:Ren}{hp hp':Nat→Option ABlk}(h:Shr r hp hp'):CvL r hp hp' zC (qC 0):=by
 rw[qC0];exact ag_ (Cv.emp _) (ag_ (an_ h (ad_ _)) (ag_ (Cv.emp _) ao_))
def clS(m:List Rat)(l r:Bool)(a b:Rat)(n:Nat):Nat→AState
 |0=>⟨[(17,i64 n),(18,i64 ((0:Nat):Int)),(6,.lptr 1 0 0)],[(1,some ⟨150,16,[ldC (wC m l r (qC a) (qC b)) (.arr (pE [1])) .emp zC .emp .emp]⟩)],2,113⟩
 |k+1=>⟨[(17,i64 n),(18,i64 ((k+1:Nat):Int)),(6,.lptr 1 0 0)],[(1,some ⟨150,16,[ldC (wC m l r (qC a) (qC b)) (.arr (pE (ldr m (k+1)).1)) (.arr (pE (ldr m (k+1)).2.1)) (qC (ldr m (k+1)).2.2) (.lsl 2 0 (k+1) none 3) (.lsl 3 0 (k+1) none 3)]⟩),(2,some ⟨35,3,pE (sqL (ldAk m) (k+1))⟩),(3,some ⟨35,3,pE (sqL (ldB m) (k+1))⟩)],4,113⟩
def clX(m:List Rat)(l r:Bool)(a b:Rat)(n k:Nat):AState:=⟨[(17,i64 n),(18,i64 k),(6,.lptr 1 0 0)],[(1,some ⟨150,16,[ldF m l r a b k]⟩)],2,113⟩
set_option maxHeartbeats 2000000 in
theorem sV_(m:List Rat)(l r:Bool)(a b:Rat)(n d:Nat)(hn:n≤1000)(hd:d≤n)(hok:∀k,k< d→okLd m k)(hbad:d< n→okMul (ldr m d).1 (ldr m d).1∧okOf m (mulP (ldr m d).1 (ldr m d).1)∧¬0< ldN m (ldr m d).1):
    FS 87 [.agg (wC m l r (qC a) (qC b)),i64 n] (.tup [.aptr [ldF m l r a b d] 0 0,bln (decide (d=n))]):=by
 have hWc:∀c∈wC m l r (qC a) (qC b),Closed c:=a7_ (.inr ⟨a,rfl⟩) (.inr ⟨b,rfl⟩);refine f_c Tryz.func87 ?_;refine r_z 3 ?_;refine aa_ (r_d hmix 6 ?_);refine c_s (aV_ 1 (by decide)) ?_;refine a_4 ?_;refine ai_ (n_k ?_);refine aa_ (r_z 2 ?_);refine aw_ (fun _:Unit=>⟨[(6,.aptr [ldF m l r a b d] 0 0)],[],1,113⟩) (fun _=>d=n) ?_ ?_;refine ac_ (ap_ (fun k:Nat=>clS m l r a b n k) (fun k=>n- k) (fun k=>k≤d) 0 (Nat.zero_le _) ?_ ?_);rw[clS.eq_1];refine s_x [(1,6)] (fun hs=>au_f) (fun hs=>?_)
 ·repeat' (first|exact az_|refine h_c ?_ ?_|exact al_ (jS_ _ hs hWc (d0_ (L:=[1]) hs rfl (aW_ rfl) rfl rfl) (an_ hs bc_) (CvL.clo hs ek_) (an_ hs bc_) (an_ hs bc_))|exact au_e)
 rintro k hk;by_cases hlt:k< d;obtain⟨o1,o2,o3,o4,o5,o6,o7,o8,o9,o10,o11,o12,o13,o14,o15⟩:=hok k hlt;have hmm:=eH_ _ _ o1;have ho1:=pn_ m _ l r a b o2;have hsg:=bZ_ (ldN m (ldr m k).1);have hsp:=sgZ_num_gt.2 o3;have hmx:=s6_ _ o4;have ho2:=pn_ m _ l r a b o5;have hov:=eg_ _ (ldN m (ldr m k).1) (by grind) o6;have hng:=h0_ (ldAk m k);have hmp:=eH_ (ldr m k).1 [-ldAk m k,1] o8;have hsc:=eB_ (ldr m k).2.1 (ldB m k) o9 o10 o13;have hsu:=sZ_ _ _ o11 o12 o14 o15;cases k with
 |zero=>
  have hsc0:FS 50 [.arr [],.agg [.arr [],bln false,.arr []]] (.arr (pE (av_ (ldr m 0).2.1 (ldB m 0)))):=by
   rw[show qC (ldB m 0)=[.arr [],bln false,.arr []] by rw[show ldB m 0=0 from rfl];exact qC0] at hsc;exact hsc
  rw[clS.eq_1];refine q_z 1 ?_;refine aa_ (cT (ae_ (aa_ (ac_ (r_z 2 ?_)))));refine aa_ (r_d hmix 10 ?_);refine c_s (hmm) ?_;refine a_1 ?_;refine ai_ (n_k ?_);refine r_c 8 (ho1) ?_;refine a_z ?_;refine aa_ (r_c 3 (hsg) ?_);refine d_z ?_;refine cF (ae_ (aa_ (r_d hmix 17 ?_)));refine c_s (aV_ 1 (by decide)) ?_;refine a_1 ?_;refine o_1 (.callS1 rfl rfl rfl (.keep (.shut rfl d_n (.nil))) rfl (hmx)) ?_;refine c_s (ho2) ?_;refine c_s (hov) ?_;refine a_5 ?_;refine ai_ (n_k ?_);refine aa_ (q_z 2 ?_);refine cF (ae_ (r_z 5 ?_));refine aa_ (r_d hmix 22 ?_);refine a_8 ?_;refine a_8 ?_;refine a_6 ?_;refine ai_ (n_k ?_);refine r_d hmix 28 ?_;refine c_s (hng) ?_;refine c_s (aV_ 1 (by decide)) ?_;refine a_1 ?_;refine o_1 (.callS1 rfl rfl rfl (.keep (.shut rfl d_n (.nil))) rfl (hmp)) ?_;refine c_s (hsc0) ?_;refine c_s (hsu) ?_;refine a_8 ?_;refine a_2 ?_;refine ai_ (n_k ?_);refine r_m 2 ?_;refine a_z ?_;refine⟨0+1,by omega,hlt,?_⟩;rw[clS.eq_2];refine s_x [(1,6),(2,73),(3,80)] (fun hs=>au_f) (fun hs=>?_)
  ·repeat' (first|exact az_|refine h_c ?_ ?_|exact bi_ hs (aK_ [ldAk m 0])|exact al_ (fZ_ hs)|exact al_ (jS_ _ hs hWc (an_ hs (aD_ _)) (an_ hs (aD_ _)) (CvL.clo hs (br_ _)) (Cv.sl rfl rfl rfl) (Cv.sl rfl rfl rfl))|exact au_e)
 |succ k=>
  rw[clS.eq_2];have hB:ldB m (k+1)=ldN m (ldr m (k+1)).1/ (ldr m (k+1)).2.2:=if_neg (Nat.succ_ne_zero k);have hpv:0< (ldr m (k+1)).2.2:=(hok k (by omega)).2.2.1;have hov2:=eg_ (ldN m (ldr m (k+1)).1) (ldr m (k+1)).2.2 (by grind) o7;rw[←hB] at hov2;have eA:pE (sqL (ldAk m) (k+1))++[qC (ldAk m (k+1))]=pE (sqL (ldAk m) (k+1+1)):=by rw[e5_ _ (k+1),iP_]
  have eB:pE (sqL (ldB m) (k+1))++[qC (ldB m (k+1))]=pE (sqL (ldB m) (k+1+1)):=by rw[e5_ _ (k+1),iP_]
  refine q_z 1 ?_;refine aa_ (cT (ae_ (aa_ (ac_ (r_z 2 ?_)))));refine aa_ (r_d hmix 10 ?_);refine c_s (hmm) ?_;refine a_1 ?_;refine ai_ (n_k ?_);refine r_c 8 (ho1) ?_;refine a_z ?_;refine aa_ (r_c 3 (hsg) ?_);refine d_z ?_;refine cF (ae_ (aa_ (r_d hmix 17 ?_)));refine c_s (aV_ 1 (by decide)) ?_;refine a_1 ?_;refine o_1 (.callS1 rfl rfl rfl (.keep (.shut rfl d_n (.nil))) rfl (hmx)) ?_;refine c_s (ho2) ?_;refine c_s (hov) ?_;refine a_5 ?_;refine ai_ (n_k ?_);refine aa_ (q_z 2 ?_);refine cT (r_d hmix 7 ?_);refine c_s (hov2) ?_;refine a_1 ?_;refine ai_ (n_k ?_);refine r_z 5 ?_;refine aa_ (r_d hmix 22 ?_);refine a_8 ?_;refine a_8 ?_;refine a_6 ?_;refine ai_ (n_k ?_);refine r_d hmix 28 ?_;refine c_s (hng) ?_;refine c_s (aV_ 1 (by decide)) ?_;refine a_1 ?_;refine o_1 (.callS1 rfl rfl rfl (.keep (.shut rfl d_n (.nil))) rfl (hmp)) ?_;refine c_s (hsc) ?_;refine c_s (hsu) ?_;refine a_8 ?_;refine a_2 ?_;refine ai_ (n_k ?_);refine r_m 2 ?_;refine a_z ?_;refine⟨k+1+1,by omega,hlt,?_⟩;rw[clS.eq_2];refine s_x [(1,6),(2,73),(3,80)] (fun hs=>au_f) (fun hs=>?_) e_4
  ·repeat' (first|exact az_|refine h_c ?_ ?_|exact aC_ hs eA (aK_ _)|exact aC_ hs eB (aK_ _)|exact al_ (jS_ _ hs hWc (an_ hs (aD_ _)) (an_ hs (aD_ _)) (CvL.clo hs (br_ _)) (Cv.sl rfl rfl rfl) (Cv.sl rfl rfl rfl))|exact au_e)
 obtain rfl:k=d:=by omega
 refine AWp.ent (st':=clX m l r a b n k) ?_ ?_;cases k with
 |zero=>
  rw[clS.eq_1];unfold clX;refine s_x [(1,6)] (fun hs=>au_f) (fun hs=>?_)
  ·repeat' (first|exact az_|refine h_c ?_ ?_|exact al_ (jS_ _ hs hWc (an_ hs (aD_ _)) (Cv.emp _) (fZ_ hs) (Cv.emp _) (Cv.emp _))|exact au_e)
 |succ k=>
  rw[clS.eq_2];unfold clX;refine s_x [(1,6)] (fun hs=>au_f) (fun hs=>?_)
  ·repeat' (first|exact az_|refine h_c ?_ ?_|exact al_ (jS_ _ hs hWc (an_ hs (aD_ _)) (an_ hs (aD_ _)) (CvL.clo hs (br_ _)) (d0_ hs rfl (aW_ rfl) rfl (by simp)) (d0_ hs rfl (aW_ rfl) rfl (by simp)))|exact au_e)
 unfold clX;by_cases hdn:k< n
 ·obtain⟨o1,o2,o3⟩:=hbad hdn
  have hmm:=eH_ _ _ o1;have ho1:=pn_ m _ l r a b o2;have hsg:=bZ_ (ldN m (ldr m k).1)
  have hsp:sgZ (ldN m (ldr m k).1).num≤0:=by
   have h1:=sgZ_num_gt (q:=ldN m (ldr m k).1);by_cases e:0< sgZ (ldN m (ldr m k).1).num;exact absurd (h1.1 e) o3;omega
  rw[decide_eq_false (show¬k=n by omega)];refine q_z 1 ?_;refine aa_ (cT (ae_ (aa_ (ac_ (r_z 2 ?_)))));refine aa_ (r_d hmix 10 ?_);refine c_s (hmm) ?_;refine a_1 ?_;refine ai_ (n_k ?_);refine r_c 8 (ho1) ?_;refine a_z ?_;refine aa_ (r_c 3 (hsg) ?_);refine d_z ?_;refine aj_ rfl (fun h=>?_) (fun h=>?_);rotate_left;cases h;refine r_z 3 ?_;refine af_ (Fin.many ⟨_,_,rfl,rfl,⟨_,_,rfl,rfl,rfl⟩⟩ (nle rfl) ?_);exact ag_ (Cv.boxp ar_ rfl (fun _ _ h=>by cases h) rfl (eV_ m l r a b _)) (ag_ (an_ ar_ (ad_ _)) ao_)
 obtain rfl:k=n:=by omega
 refine q_z 1 ?_;refine aa_ (cF (am_ ⟨(),rfl,?_⟩));refine s_x [] (fun hs=>?_) (fun hs=>?_)
 ·repeat' (first|exact a2_|refine aH_ rfl ?_ ?_|exact Cv.boxp hs rfl (aW_ rfl) rfl (eV_ m l r a b _)|exact au_c)
 ·repeat' (first|exact az_|refine h_c ?_ ?_|exact au_e|refine al_ ?_|exact ao_|refine ag_ ?_ ?_|exact Cv.boxp hs rfl (aW_ rfl) rfl (eV_ m l r a b _)|exact au_c)
 rintro _ hdn;rw[decide_eq_true hdn];refine r_z 3 ?_;refine af_ (Fin.many ⟨_,_,rfl,rfl,⟨_,_,rfl,rfl,rfl⟩⟩ (nle rfl) ?_);exact CvL.clo ar_ (ab_ (de_ fun e he=>by rw[List.mem_singleton.1 he];exact eV_ m l r a b d) (ab_ (ad_ _) ah_))
theorem lu_(m:List Rat)(l r:Bool)(a b:Rat)(n:Nat)(hn:n≤1000)(hok:∀k,k< n→okLd m k):
    FS 87 [.agg (wC m l r (qC a) (qC b)),i64 n] (.tup [.aptr [ldF m l r a b n] 0 0,bln true]):=by
 have h:=sV_ m l r a b n n hn (Nat.le_refl n) hok fun h=>absurd h (Nat.lt_irrefl n);rw[decide_eq_true rfl] at h;exact h
theorem jh_(u v:Rat)(n:Nat)(hu:qs u≤256)(hv:qs v≤256)(hn:n≤8):FS 79 [.arr (pE [u,v]),i64 n] (.arr (pE (powP [u,v] n))):=by
 refine f_c Tryz.func79 ?_;refine r_z 1 ?_;refine r_c 8 (s4_ u v n hu hv hn) ?_;refine a_z ?_;refine r_z 2 ?_;exact af_ (t_e (aD_ _))
abbrev wZ:List AV:=wC [] false false (qC 0) (qC 0)
theorem Cv_wZ{r:Ren}{hp hp':Nat→Option ABlk}(h:Shr r hp hp'):Cv r hp hp' (.agg w0C) (.agg wZ):=
 Cv.agg (cF_ (cF_ (ag_ (Cv.emp _) (ag_ (an_ h (ad_ _)) (ag_ (an_ h (ad_ _)) ao_))) (fZ_ h)) (fZ_ h))
theorem s8_(a b:Rat)(p q n:Nat)(hp:p≤8)(hq:q≤8)(hn:n≤63)(hab:a< b)(ha:qs a≤256)(hb:qs b≤256):
    FS 15 [.agg (spC a b),i64 p,i64 q,i64 n] (.tup [.agg (wC (sqL (moQ (jcF a b p q) (a,b)) (n+1)) true true (qC a) (qC b)),i64 0]):=by
 have sa:sm a:=Nat.le_trans ha (by decide);have sb:sm b:=Nat.le_trans hb (by decide);have hva:=fN_ a b sa sb;rw[decide_eq_true (show cmpQ a b≤0 by unfold cmpQ;rw[if_pos hab];decide)] at hva;have hsi:=bZ_ (b- a);have hne:¬sgZ (b- a).num=0:=fun e=>by have:=sgZ_num_eq.1 e;grind
 have hop:=bs_ (p:Nat) 0 8;rw[decide_eq_false (by omega)] at hop;have hoq:=bs_ (q:Nat) 0 8;rw[decide_eq_false (by omega)] at hoq;have hon:=bs_ (n:Nat) 0 63;rw[decide_eq_false (by omega)] at hon;have hp1:FS 79 [.arr [qC (-a),qC ((1:Int):Rat)],i64 p] (.arr (pE (powP [-a,1] p))):=jh_ (-a) 1 p (by rw[dG_];exact ha) (by decide) hp;have hp2:FS 79 [.arr [qC b,qC ((-1:Int):Rat)],i64 q] (.arr (pE (powP [b,-1] q))):=jh_ b (-1) q hb (by decide) hq;have l1:=dT_ (-a) 1 hp;have l2:=dT_ b (-1) hq;have m1:=lB_le hp;have m2:=lB_le hq
 have hmu:FS 52 [.arr (pE (powP [-a,1] p)),.arr (pE (powP [b,-1] q))] (.arr (pE (jcF a b p q))):=ky_ _ _ (lB p) (lB q) (jc_p ha) (jc_q hb) (fI_ p) (fI_ q) (by
  have h4:=Nat.mul_le_mul l1 (show lB p+lB q+1≤320001 by omega);omega) (by omega) (by omega) (by omega)
 have htk:=ip_ 81 [bP (jcF a b p q),bS (a,b)] (ab_ (bV_ _) (ab_ (fU_ _) ah_)) (moQ (jcF a b p q) (a,b)) n (by omega) rfl (mE_ (jcF a b p q) (a,b) n (by omega) fun k hk=>(jc_mom ha hb hp hq k (by omega)).1);generalize moQ (jcF a b p q) (a,b)=sq at htk⊢;refine f_c Tryz.func15 ?_;refine r_z 3 ?_;refine aQ_ (fun _:Unit=>⟨[(1,i64 p),(2,i64 q),(3,i64 n),(4,.lptr 1 0 0),(8,.lptr 2 0 0)],[(1,some ⟨37,6,[spC a b]⟩),(2,some ⟨51,9,[w0C]⟩)],3,58⟩) (fun _=>True) ?_ ?_;refine ac_ (r_c 10 (hva) ?_);refine c_s (g6_ a b sa sb) ?_;refine c_s (hsi) ?_;refine d_z ?_;refine cF (r_c 11 (hop) ?_);refine c_s (hoq) ?_;refine c_s (hon) ?_;refine a_z ?_;refine cF (ae_ ⟨(),trivial,?_⟩);exact s_x [(1,4),(2,8)] (fun hs=>au_f) (fun hs=>e_35);rintro _ _;refine aa_ (r_d hmix 16 ?_);refine c_s (h0_ a) ?_;refine c_s (aV_ 1 (by decide)) ?_;refine a_2 ?_;refine o_1 (.callS1 rfl rfl rfl (.shut rfl d_n (.keep (.nil))) rfl (hp1)) ?_;refine c_s (aV_ (-1) (by decide)) ?_;refine a_2 ?_;refine o_1 (.callS1 rfl rfl rfl (.shut rfl d_n (.keep (.nil))) rfl (hp2)) ?_;refine c_s (hmu) ?_;refine a_2 ?_;refine ai_ (n_k ?_);refine AWp.ent (st':=⟨[(3,i64 n),(4,bS (a,b)),(8,.lptr 1 0 0),(10,bP (jcF a b p q))],[(1,some ⟨51,9,[w0C]⟩)],2,58⟩) ?_ ?_;exact s_f [(1,8)];refine r_z 2 ?_;refine aa_ (r_d hmix 10 ?_);refine c_s (htk) ?_;refine a_7 ?_;refine ai_ (n_k ?_);refine af_ (Fin.many ⟨_,_,rfl,⟨_,_,_,_,_,rfl,rfl,rfl,.inl ⟨TG.h,_,TS.h,nle rfl,rfl⟩⟩,⟨_,_,rfl,rfl,rfl⟩⟩ (nle rfl) ?_)
 exact ag_ (an_ ar_ (au_ (a7_ (.inr ⟨a,rfl⟩) (.inr ⟨b,rfl⟩)))) (ag_ (an_ ar_ (ad_ _)) ao_)
theorem qA_(a b:Rat)(p q n:Int)(hab:¬a< b)(ha:qs a≤256)(hb:qs b≤256):FS 15 [.agg (spC a b),i64 p,i64 q,i64 n] (.tup [.agg wZ,i64 2]):=by
 have sa:sm a:=Nat.le_trans ha (by decide);have sb:sm b:=Nat.le_trans hb (by decide);have hva:=fN_ a b sa sb;refine f_c Tryz.func15 ?_;refine r_z 3 ?_;refine aa_ (ac_ ?_);by_cases e:a=b;have hsi:=bZ_ (b- a);rw[decide_eq_true (show cmpQ a b≤0 by unfold cmpQ;rw[if_neg hab,if_pos e];decide)] at hva;refine r_c 10 (hva) ?_;refine c_s (g6_ a b sa sb) ?_;refine c_s (hsi) ?_;refine aA_ rfl rfl rfl (.bin rfl rfl (vT aU_ (decide_eq_true (sgZ_num_eq.2 (by grind))))) rfl rfl ?_;refine a_z ?_;refine cT (r_z 3 ?_);refine af_ (Fin.many ⟨_,_,rfl,⟨_,_,_,_,_,rfl,rfl,rfl,.inl ⟨TG.h,_,TS.h,nle rfl,rfl⟩⟩,⟨_,_,rfl,rfl,rfl⟩⟩ (nle rfl) ?_);exact ag_ (Cv_wZ ar_) (ag_ (an_ ar_ (ad_ _)) ao_);rw[decide_eq_false (show¬cmpQ a b≤0 by unfold cmpQ;rw[if_neg hab,if_neg e];decide)] at hva;refine r_c 10 (hva) ?_;refine a_z ?_;refine cT (r_z 3 ?_);refine af_ (Fin.many ⟨_,_,rfl,⟨_,_,_,_,_,rfl,rfl,rfl,.inl ⟨TG.h,_,TS.h,nle rfl,rfl⟩⟩,⟨_,_,rfl,rfl,rfl⟩⟩ (nle rfl) ?_);exact ag_ (Cv_wZ ar_) (ag_ (an_ ar_ (ad_ _)) ao_)
theorem qz_(a b:Rat)(p q n:Int)(hab:a< b)(ha:qs a≤256)(hb:qs b≤256)(h:p< 0∨8< p∨q< 0∨8< q∨n< 0∨63< n):FS 15 [.agg (spC a b),i64 p,i64 q,i64 n] (.tup [.agg wZ,i64 3]):=by
 have sa:sm a:=Nat.le_trans ha (by decide);have sb:sm b:=Nat.le_trans hb (by decide);have hva:=fN_ a b sa sb;rw[decide_eq_true (show cmpQ a b≤0 by unfold cmpQ;rw[if_pos hab];decide)] at hva;have hsi:=bZ_ (b- a);have hne:¬sgZ (b- a).num=0:=fun e=>by have:=sgZ_num_eq.1 e;grind
 have hop:=bs_ p 0 8;have hoq:=bs_ q 0 8;have hon:=bs_ n 0 63;refine f_c Tryz.func15 ?_;refine r_z 3 ?_;refine aa_ (ac_ (r_c 10 (hva) ?_));refine c_s (g6_ a b sa sb) ?_;refine c_s (hsi) ?_;refine d_z ?_;refine cF ?_;by_cases h1:p< 0∨8< p;rw[decide_eq_true h1] at hop;refine r_c 11 (hop) ?_;refine a_z ?_;refine cT (r_z 3 ?_);refine af_ (Fin.many ⟨_,_,rfl,⟨_,_,_,_,_,rfl,rfl,rfl,.inl ⟨TG.h,_,TS.h,nle rfl,rfl⟩⟩,⟨_,_,rfl,rfl,rfl⟩⟩ (nle rfl) ?_);exact ag_ (Cv_wZ ar_) (ag_ (an_ ar_ (ad_ _)) ao_);rw[decide_eq_false h1] at hop;by_cases h2:q< 0∨8< q;rw[decide_eq_true h2] at hoq;refine r_c 11 (hop) ?_;refine c_s (hoq) ?_;refine a_z ?_;refine cT (r_z 3 ?_);refine af_ (Fin.many ⟨_,_,rfl,⟨_,_,_,_,_,rfl,rfl,rfl,.inl ⟨TG.h,_,TS.h,nle rfl,rfl⟩⟩,⟨_,_,rfl,rfl,rfl⟩⟩ (nle rfl) ?_);exact ag_ (Cv_wZ ar_) (ag_ (an_ ar_ (ad_ _)) ao_);rw[decide_eq_false h2] at hoq;rw[decide_eq_true (show n< 0∨63< n by omega)] at hon;refine r_c 11 (hop) ?_;refine c_s (hoq) ?_;refine c_s (hon) ?_;refine a_z ?_;refine cT (r_z 3 ?_);refine af_ (Fin.many ⟨_,_,rfl,⟨_,_,_,_,_,rfl,rfl,rfl,.inl ⟨TG.h,_,TS.h,nle rfl,rfl⟩⟩,⟨_,_,rfl,rfl,rfl⟩⟩ (nle rfl) ?_);exact ag_ (Cv_wZ ar_) (ag_ (an_ ar_ (ad_ _)) ao_)
theorem jj_(n lo hi:Int)(h:lo≤n∧n≤hi):FS 85 [i64 n,i64 lo,i64 hi] (i64 0):=by
 have ho:=bs_ n lo hi;rw[decide_eq_false (by omega)] at ho;refine f_c Tryz.func85 ?_;refine r_z 1 ?_;refine aa_ (r_c 4 (ho) ?_);refine ai_ ?_;refine cF (ae_ (r_z 1 ?_));exact af_ (t_e (ad_ _))
theorem lo_ (m:List Rat) (l r:Bool) (a b:Rat) (mo:Nat) (g:Nat) (cap:List AV) (p wt:List Rat) (hcap:∀c∈cap,Closed c) (hm:1≤m.length∧m.length≤64) (hab:l=true→r=true→a< b) (ha:sm a) (hb:sm b)
    (hmo:mo≤m.length) (hg:FS g (cap.map coe) (.tup [.arr (pE p),bln true])) (hr:FS 160 [.arr (pE p)] (bln true)) (hpb:bdL p 68719476736) (hp0:trimQ p≠[]) (hpl:p.length≤1099511627776)
    (hon:FS 161 [.agg (wC m l r (qC a) (qC b)),.arr (pE (aG_ p))] (.agg (ruC (aG_ p) wt))):
    FS 84 [.agg (wC m l r (qC a) (qC b)),i64 0,i64 mo,.clos g [] cap] (.tup [.agg (ruC (aG_ p) wt),i64 0]):=by
 have hWc:∀c∈wC m l r (qC a) (qC b),Closed c:=a7_ (.inr ⟨a,rfl⟩) (.inr ⟨b,rfl⟩);have hcw:=cB_ m l r a b hm hab ha hb;have hmn:=kq_ p hpb hp0 hpl;refine f_n Tryz.func84 ?_ ?_;exact ab_ (au_ hWc) (ab_ (ad_ _) (ab_ (ad_ _) (ab_ (ba_ ah_ hcap) ah_)));refine r_z 3 ?_;refine aa_ (r_c 3 (hcw) ?_);refine a_z ?_;refine s_r 2 ?_;refine a_1 ?_;refine o_0 (.bin rfl rfl (vF bd_ (rfl))) ?_;refine ai_ ?_;refine cF (ae_ (aa_ (ac_ (s_r 3 ?_))));refine a_1 ?_;refine o_0 (.bin rfl rfl (vF bd_ (rfl))) ?_;refine a_z ?_;refine cF (q_z 6 ?_);refine cF (ae_ (r_c 7 (hg) ?_));refine a_z ?_;refine aa_ (r_c 7 (hr) ?_);refine a_z ?_;refine cF (ae_ (aa_ (r_d hmix 6 ?_)));refine c_s (hmn) ?_;refine c_s (hon) ?_;refine a_2 ?_;refine ai_ (n_k ?_);refine af_ (Fin.many ⟨_,_,rfl,⟨_,_,_,_,_,rfl,rfl,rfl,.inl ⟨TG.h,_,TS.h,nle rfl,rfl⟩⟩,⟨_,_,rfl,rfl,rfl⟩⟩ (nle rfl) ?_);exact ag_ (an_ ar_ (au_ (bn_ _ _))) (ag_ (an_ ar_ (ad_ _)) ao_)
def bW(m:List Rat)(l r:Bool)(a b:Rat):AV:= .aptr [wC m l r (qC a) (qC b)] 0 0
theorem eY_(m:List Rat)(l r:Bool)(a b:Rat):Closed (bW m l r a b):=aE_ (a7_ (.inr ⟨a,rfl⟩) (.inr ⟨b,rfl⟩))
def bIn(n:Int):AV:= .aptr [[i64 n]] 0 0
theorem dz_(n:Int):Closed (bIn n):=aE_ (ab_ (ad_ _) ah_)
theorem s9_(m:List Rat)(l r:Bool)(a b:Rat)(n:Nat)(hn:n≤1000)(hok:∀k,k< n→okLd m k):FS 86 [bW m l r a b,bIn n] (.tup [.arr (pE (ldr m n).1),bln true]):=by
 have hcl:=lu_ m l r a b n hn hok;refine f_n Tryz.func86 ?_ ?_;exact ab_ (eY_ m l r a b) (ab_ (dz_ n) ah_);refine r_z 2 ?_;refine r_c 8 (hcl) ?_;refine a_z ?_;refine r_z 7 ?_;refine af_ (Fin.many ⟨_,_,rfl,rfl,⟨_,_,rfl,rfl,rfl⟩⟩ (nle rfl) ?_);exact ag_ (an_ ar_ (aD_ _)) (ag_ (an_ ar_ (ad_ _)) ao_)
theorem fs_Gauss (m:List Rat) (l r:Bool) (a b:Rat) (n:Nat) (wt:List Rat) (hn:1≤n∧n≤25) (hok:∀k,k< n→okLd m k) (hm:2* n≤m.length∧m.length≤64) (hab:l=true→r=true→a< b) (ha:sm a) (hb:sm b)
    (hr:FS 160 [.arr (pE (ldr m n).1)] (bln true)) (hpb:bdL (ldr m n).1 68719476736) (hp0:trimQ (ldr m n).1≠[]) (hpl:(ldr m n).1.length≤1099511627776)
    (hon:FS 161 [.agg (wC m l r (qC a) (qC b)),.arr (pE (aG_ (ldr m n).1))] (.agg (ruC (aG_ (ldr m n).1) wt))):
    FS 16 [.agg (wC m l r (qC a) (qC b)),i64 n] (.tup [.agg (ruC (aG_ (ldr m n).1) wt),i64 0]):=by
 have hWc:∀c∈wC m l r (qC a) (qC b),Closed c:=a7_ (.inr ⟨a,rfl⟩) (.inr ⟨b,rfl⟩);have hra:=jj_ (n:Nat) 1 25 (by omega);have hcc:∀c∈[bW m l r a b,bIn n],Closed c:=ab_ (eY_ m l r a b) (ab_ (dz_ n) ah_);have hna:=lo_ m l r a b (2* n) 86 [bW m l r a b,bIn n] (ldr m n).1 wt hcc (by omega) hab ha hb hm.1 (s9_ m l r a b n (by omega) hok) hr hpb hp0 hpl hon;refine f_c Tryz.func16 ?_;refine r_z 4 ?_;refine AWp.ent (st':=⟨[(2,bW m l r a b),(3,bIn n),(4,.lptr 1 0 0)],[(1,some ⟨57,2,[[.emp,.emp]]⟩)],2,15⟩) ?_ ?_;exact s_x [(1,4)] (fun hs=>e_36) (fun hs=>e_37);refine aa_ (r_d hmix 11 ?_);refine c_s (hra) ?_;refine c_s (hna) ?_;refine a_4 ?_;refine ai_ (n_k ?_);refine af_ (Fin.many ⟨_,_,rfl,⟨_,_,_,_,_,rfl,rfl,rfl,.inl ⟨TG.h,_,TS.h,nle rfl,rfl⟩⟩,⟨_,_,rfl,rfl,rfl⟩⟩ (nle rfl) ?_);exact ag_ (an_ ar_ (au_ (bn_ _ _))) (ag_ (an_ ar_ (ad_ _)) ao_)
theorem fcR(n:Nat):(((fcN n:Nat):Int):Rat) * (((n+1:Nat):Int):Rat)=((fcN (n+1):Nat):Int):=by
 rw[fcN,Int.natCast_mul,Rat.intCast_mul]
def lgT(p k:Nat):Option (List AV):=some [.agg (qC (lgQ p k))]
theorem nX_(p K:Nat)(hp:p≤8)(hK:K≤63):GSpecB Tryz.prog 194 [bIn p] (lgT p) K:=by
 have hcb:Closed (bIn p):=aE_ (ab_ (ad_ _) ah_);have h1:=aV_ 1 (by decide);refine GSpecB.enter Tryz.func194 rfl (by kernel_rfl) rfl rfl rfl ?_ ?_ rfl ?_;exact ab_ hcb ah_;intro k xs h;cases h;exact ab_ (aI_ _) ah_;intro ll N hN E;refine GWp.seq ?_;refine GWp.lift ?_;refine r_m 3 ?_;refine c_s (h1) ?_;refine a_z ?_;refine GWp.seq ?_;refine GWp.seq ?_;refine GWp.lift ?_;refine r_m 1 ?_;refine a_z ?_;refine GWp.cutT (fun _:Unit=>⟨[(0,.v (.func (.yield ll) #[] #[])),(1,bIn p),(3,.lptr 1 0 0)],[(1,some ⟨35,3,[qC (((fcN p:Nat):Int):Rat)]⟩)],2,27⟩) (fun _=>True) ?_ ?_;refine ac_ (ap_ (fun k:Nat=>⟨[(0,.v (.func (.yield ll) #[] #[])),(1,bIn p),(3,.lptr 1 0 0),(4,i64 ((k+1:Nat):Int))],[(1,some ⟨35,3,[qC (((fcN k:Nat):Int):Rat)]⟩)],2,27⟩) (fun k=>p- k) (fun k=>k≤p) 0 (Nat.zero_le _) ?_ ?_);exact s_e [(1,3)];intro k hk;by_cases hlt:k< p;have hw:=aV_ ((k+1:Nat):Int) (by omega)
 have hm:=dp_ (((fcN k:Nat):Int):Rat) (((k+1:Nat):Int):Rat) (by
  have:=ha_ (n:=k) (by omega);have:=qi21 (n:=((k+1:Nat):Int)) (by omega);omega)
 rw[fcR] at hm;refine aa_ (q_z 3 ?_);refine cT (ae_ (aa_ (ac_ (r_d hmix 5 ?_))));refine c_s (hw) ?_;refine c_s (hm) ?_;refine a_1 ?_;refine ai_ (n_k ?_);refine r_m 3 ?_;refine a_z ?_;refine⟨k+1,by omega,hlt,?_⟩;exact s_e [(1,3)];have hge:k=p:=by omega
 subst hge;refine aa_ (q_z 3 ?_);refine cF (am_ ⟨(),trivial,?_⟩);exact s_e [(1,3)];rintro _ _;refine GWp.seq ?_;refine GWp.lift ?_;refine r_m 3 ?_;refine a_z ?_;refine GWp.block ?_;refine GWp.loopS (fun k:Nat=>⟨[(0,.v (.func (.yield ll) #[] #[])),(1,bIn p),(3,.lptr 1 0 0),(5,i64 ((p+k+1:Nat):Int))],[(1,some ⟨35,3,[qC (lgQ p k)]⟩)],2,27⟩) (fun k=>k) (fun k=>N+1- k) (fun k=>k≤N) 0 (Nat.zero_le _) rfl ?_ ?_;exact s_e [(1,3)];intro k hk;refine GWp.seq ?_;refine GWp.seq ?_;refine GWp.regY (fr2:=[(0,.v (.func (.yield ll) #[] #[])),(1,bIn p),(3,.lptr 1 0 0),(5,i64 ((p+k+1:Nat):Int)),(18,.v (.func (.yield ll) #[] #[])),(19,.agg (qC (lgQ p k)))]) (hp2:=[(1,some ⟨35,3,[qC (lgQ p k)]⟩)]) (nx2:=2) 2 rfl rfl rfl rfl rfl rfl ?_ rfl rfl rfl ?_ ?_ ?_;refine o_0 (.move rfl) ?_
 first|refine aq_ (.load_l rfl rfl rfl TG.h TS.h (nle rfl)) rfl rfl ?_|refine aq_ (.load_a rfl rfl TG.h TS.h (nle rfl)) rfl rfl ?_
 refine ai_ ?_;exact s_y [(1,3)] (fun hs=>au_f) (fun hs=>au_h);rotate_left 2;intro go;refine ai_ ?_;rotate_left;rfl;exact ab_ (aI_ _) ah_;cases go with
 |false=>
  refine GWp.cond rfl (fun h=>?_) (fun h=>?_);cases h;exact GWp.exit ⟨.inl rfl,fun h=>by cases h⟩
 |true=>
  refine GWp.bound fun hk1=>?_;refine GWp.cond rfl (fun h=>?_) (fun h=>?_);rotate_left;cases h;refine GWp.skip ?_;have hw:=aV_ ((p+k+1:Nat):Int) (by omega)
  have hm:=dp_ (lgQ p k) (((p+k+1:Nat):Int):Rat) (by
   have h1:=ha_ (n:=p+k) (by omega);have h2:=qi21 (n:=((p+k+1:Nat):Int)) (by omega);show qs (((fcN (p+k):Nat):Int):Rat)+_≤_;omega)
  have e:lgQ p k* (((p+k+1:Nat):Int):Rat)=lgQ p (k+1):=fcR (p+k);rw[e] at hm;refine GWp.seq ?_;refine GWp.lift ?_;refine ac_ (r_d hmix 5 ?_);refine c_s (hw) ?_;refine c_s (hm) ?_;refine a_1 ?_;refine ai_ (n_k ?_);refine GWp.lift ?_;refine r_m 3 ?_;refine a_z ?_;refine⟨rfl,k+1,by omega,hk1,rfl,?_⟩;exact s_e [(1,3)]
theorem Cv_wz{r:Ren}{hp hp':Nat→Option ABlk}(h:Shr r hp hp')(m:List Rat)(l b:Bool):Cv r hp hp' (.agg ([.arr (pE m),bln l,bln b]++zC++zC)) (.agg (wC m l b (qC 0) (qC 0))):=
 Cv.agg (cF_ (cF_ (ag_ (an_ h (aD_ m)) (ag_ (an_ h (ad_ _)) (ag_ (an_ h (ad_ _)) ao_))) (fZ_ h)) (fZ_ h))
theorem n8_(p n:Nat)(hp:p≤8)(hn:n≤63):FS 106 [i64 p,i64 n] (.tup [.agg (wC (sqL (lgQ p) (n+1)) true false (qC 0) (qC 0)),i64 0]):=by
 have hop:=bs_ (p:Nat) 0 8;rw[decide_eq_false (by omega)] at hop;have hon:=bs_ (n:Nat) 0 63;rw[decide_eq_false (by omega)] at hon;have htk:=ip_ 194 [bIn p] (ab_ (aE_ (ab_ (ad_ _) ah_)) ah_) (lgQ p) n (by omega) rfl (nX_ p n hp hn);refine f_c Tryz.func106 ?_;refine r_z 3 ?_;refine aa_ (r_c 6 (hop) ?_);refine c_s (hon) ?_;refine a_z ?_;refine cF (ae_ (AWp.ent (st':=⟨[(1,i64 n),(2,bIn p),(4,.lptr 1 0 0)],[(1,some ⟨51,9,[w0C]⟩)],2,19⟩) ?_ ?_));exact s_f [(1,4)];refine r_z 2 ?_;refine r_c 6 (htk) ?_;refine a_z ?_;refine af_ (Fin.many ⟨_,_,rfl,⟨_,_,_,_,_,rfl,rfl,rfl,.inl ⟨TG.h,_,TS.h,nle rfl,rfl⟩⟩,⟨_,_,rfl,rfl,rfl⟩⟩ (nle rfl) ?_);exact ag_ (Cv_wz ar_ _ _ _) (ag_ (an_ ar_ (ad_ _)) ao_)
theorem mS_(p n:Int)(h:p< 0∨8< p∨n< 0∨63< n):FS 106 [i64 p,i64 n] (.tup [.agg wZ,i64 3]):=by
 have hop:=bs_ p 0 8;have hon:=bs_ n 0 63;refine f_c Tryz.func106 ?_;refine r_z 3 ?_;by_cases h1:p< 0∨8< p;rw[decide_eq_true h1] at hop;refine aa_ (r_c 6 (hop) ?_);refine a_z ?_;refine cT (r_z 3 ?_);refine af_ (Fin.many ⟨_,_,rfl,⟨_,_,_,_,_,rfl,rfl,rfl,.inl ⟨TG.h,_,TS.h,nle rfl,rfl⟩⟩,⟨_,_,rfl,rfl,rfl⟩⟩ (nle rfl) ?_);exact ag_ (Cv_wZ ar_) (ag_ (an_ ar_ (ad_ _)) ao_);rw[decide_eq_false h1] at hop;rw[decide_eq_true (show n< 0∨63< n by omega)] at hon;refine aa_ (r_c 6 (hop) ?_);refine c_s (hon) ?_;refine a_z ?_;refine cT (r_z 3 ?_);refine af_ (Fin.many ⟨_,_,rfl,⟨_,_,_,_,_,rfl,rfl,rfl,.inl ⟨TG.h,_,TS.h,nle rfl,rfl⟩⟩,⟨_,_,rfl,rfl,rfl⟩⟩ (nle rfl) ?_);exact ag_ (Cv_wZ ar_) (ag_ (an_ ar_ (ad_ _)) ao_)
def bFn(g:Nat):AV:= .aptr [[.clos g [] []]] 0 0
theorem kH_(g:Nat):Closed (bFn g):=aE_ (ab_ (ba_ ah_ ah_) ah_)
def evT(f:Nat→Rat)(k:Nat):Option (List AV):=some [.agg (qC (evW f k))]
theorem gs_even(g:Nat)(f:Nat→Rat)(K:Nat)(hK:K≤63)(hg:∀j,j≤40→FS g [i64 ((2* (j+1):Nat):Int)] (.agg (qC (f (2* (j+1))))))(hf:∀k,k≤200→qs (f k)≤42):GSpecB Tryz.prog 252 [bFn g] (evT f) K:=by
 have hcb:=kH_ g;have h1:=aV_ 1 (by decide);refine GSpecB.enter Tryz.func252 rfl (by kernel_rfl) rfl rfl rfl ?_ ?_ rfl ?_;exact ab_ hcb ah_;intro k xs h;cases h;exact ab_ (aI_ _) ah_;intro ll N hN E;refine GWp.seq ?_;refine GWp.lift ?_;refine r_m 3 ?_;refine c_s (h1) ?_;refine a_z ?_;refine GWp.seq ?_;refine GWp.lift ?_;refine r_m 1 ?_;refine a_z ?_;refine GWp.block ?_;refine GWp.loopS (fun j:Nat=>⟨[(0,.v (.func (.yield ll) #[] #[])),(1,bFn g),(3,.lptr 1 0 0),(4,i64 ((2* (j+1):Nat):Int))],[(1,some ⟨35,3,[qC (evM f j)]⟩)],2,21⟩) (fun j=>2* j) (fun j=>N+2- 2* j) (fun j=>2* j≤N) 0 (Nat.zero_le _) rfl ?_ ?_;exact s_e [(1,3)];intro j hj
 have e0:evW f (2* j)=evM f j:=by
  unfold evW;rw[if_pos (by omega),show 2* j/ 2=j by omega]
 have e1:evW f (2* j+1)=0:=by
  unfold evW;rw[if_neg (by omega)]
 refine GWp.seq ?_;refine GWp.seq ?_;refine GWp.regL ?_;refine GLs.yield (fr2:=[(0,.v (.func (.yield ll) #[] #[])),(1,bFn g),(3,.lptr 1 0 0),(4,i64 ((2* (j+1):Nat):Int)),(6,.v (.func (.yield ll) #[] #[])),(7,.agg (qC (evM f j)))]) (hp2:=[(1,some ⟨35,3,[qC (evM f j)]⟩)]) (nx2:=2) 2 rfl rfl rfl rfl (.inl rfl) ?_ rfl rfl rfl ?_ ?_ ?_;refine o_0 (.move rfl) ?_
 first|refine aq_ (.load_l rfl rfl rfl TG.h TS.h (nle rfl)) rfl rfl ?_|refine aq_ (.load_a rfl rfl TG.h TS.h (nle rfl)) rfl rfl ?_
 refine ai_ ?_;exact s_y [(1,3)] (fun hs=>au_f) (fun hs=>au_h);show evT f (2* j)=_;unfold evT;rw[e0];rfl;exact ab_ (aI_ _) ah_;intro go;cases go with
 |false=>
  refine GLs.fin rfl ?_;refine o_0 (.move rfl) ?_
  first|refine aA_ rfl rfl rfl (.move rfl) rfl rfl ?_|refine bH_ rfl rfl (by first|(simp[bo_];done)|exact nofun) rfl rfl ?_
  first|refine aA_ rfl rfl rfl (.build TZ.h tp_35.h rfl rfl) rfl rfl ?_|refine bH_ rfl rfl (by first|(simp[bo_];done)|exact nofun) rfl rfl ?_
  first|refine bH_ rfl rfl (by first|(simp[bo_];done)|exact nofun) rfl rfl ?_
  first|refine aq_ (.pick rfl (fun _=>rfl) (fun _=>rfl)) rfl rfl ?_|refine aq_ (.pick rfl (fun _=>rfl) (fun h=>absurd h (by decide))) rfl rfl ?_|refine aq_ (.pick rfl (fun h=>absurd h (by decide)) (fun _=>rfl)) rfl rfl ?_
  refine ai_ ?_;refine GWp.cond rfl (fun h=>?_) (fun h=>?_);cases h;exact GWp.exit ⟨.inl rfl,fun h=>by cases h⟩
 |true=>
  refine GLs.yield (fr2:=[(0,.v (.func (.yield ll) #[] #[])),(1,bFn g),(3,.lptr 1 0 0),(4,i64 ((2* (j+1):Nat):Int)),(9,bln true),(10,.v (.func (.yield ll) #[] #[])),(11,.agg (qC 0))]) (hp2:=[(1,some ⟨35,3,[qC (evM f j)]⟩)]) (nx2:=2) 3 rfl rfl rfl rfl (.inr ⟨3,9,rfl,rfl,rfl⟩) ?_ rfl rfl rfl ?_ ?_ ?_
  ·refine o_0 (.move rfl) ?_
   first|refine aA_ rfl rfl rfl (.move rfl) rfl rfl ?_|refine bH_ rfl rfl (by first|(simp[bo_];done)|exact nofun) rfl rfl ?_
   first|refine aA_ rfl rfl rfl (.build TZ.h tp_35.h rfl rfl) rfl rfl ?_|refine bH_ rfl rfl (by first|(simp[bo_];done)|exact nofun) rfl rfl ?_
   refine ai_ ?_;refine s_y [(1,3)] (fun hs=>?_) (fun hs=>?_)
   ·repeat' (first|exact a2_|refine aH_ rfl ?_ ?_|exact Cv.agg (fZ_ hs)|exact au_c)
   ·repeat' (first|exact az_|refine h_c ?_ ?_|exact au_e|refine al_ ?_|exact ao_|refine ag_ ?_ ?_|exact Cv.agg (fZ_ hs)|exact au_c)
  show evT f (2* j+1)=_;unfold evT;rw[e1];rfl;exact ab_ (aI_ _) ah_;intro go;refine GLs.fin rfl ?_
  first|refine aq_ (.pick rfl (fun _=>rfl) (fun _=>rfl)) rfl rfl ?_|refine aq_ (.pick rfl (fun _=>rfl) (fun h=>absurd h (by decide))) rfl rfl ?_|refine aq_ (.pick rfl (fun h=>absurd h (by decide)) (fun _=>rfl)) rfl rfl ?_
  refine ai_ ?_;cases go with
  |false=>
   refine GWp.cond rfl (fun h=>?_) (fun h=>?_);cases h;exact GWp.exit ⟨.inl rfl,fun h=>by cases h⟩
  |true=>
   refine GWp.bound fun hk1=>?_;refine GWp.cond rfl (fun h=>?_) (fun h=>?_);rotate_left;cases h;refine GWp.skip ?_;have hfk:=hg j (by omega)
   have hm:=dp_ (evM f j) (f (2* (j+1))) (by
    have h1:=pD_ (f:=f) (s:=42) j fun i hi=>hf _ (by omega);have h2:=hf (2* (j+1)) (by omega);omega)
   refine GWp.seq ?_;refine GWp.lift ?_;refine ac_ (r_d hmix 6 ?_);refine c_s (hfk) ?_;refine c_s (hm) ?_;refine a_1 ?_;refine ai_ (n_k ?_);refine GWp.lift ?_;refine r_m 3 ?_;refine a_z ?_;refine⟨rfl,j+1,by omega,by omega,by omega,?_⟩;exact s_e [(1,3)]
theorem n6_(g:Nat)(f:Nat→Rat)(n:Nat)(hn:n≤63)(hg:∀j,j≤40→FS g [i64 ((2* (j+1):Nat):Int)] (.agg (qC (f (2* (j+1))))))(hf:∀k,k≤200→qs (f k)≤42):FS 196 [i64 n,.clos g [] []] (.tup [.arr (pE (sqL (evW f) (n+1))),i64 0]):=by
 have hon:=bs_ (n:Nat) 0 63;rw[decide_eq_false (by omega)] at hon;have hcg:Closed (.clos g [] []):=ba_ ah_ ah_;have htk:=ip_ 252 [bFn g] (ab_ (kH_ g) ah_) (evW f) n (by omega) rfl (gs_even g f n hn hg hf);refine f_c Tryz.func196 ?_;refine r_z 3 ?_;refine aa_ (r_c 2 (hon) ?_);refine ai_ ?_;refine cF (ae_ (AWp.ent (st':=⟨[(0,i64 n),(3,bFn g)],[],1,13⟩) ?_ ?_));have:=ab_ hcg ah_;exact s_f [];refine r_z 2 ?_;refine r_c 5 (htk) ?_;refine a_z ?_;refine af_ (Fin.many ⟨_,_,rfl,rfl,⟨_,_,rfl,rfl,rfl⟩⟩ (nle rfl) ?_);exact ag_ (an_ ar_ (aD_ _)) (ag_ (an_ ar_ (ad_ _)) ao_)
theorem lr_(g:Nat)(n:Int)(h:n< 0∨63< n):FS 196 [i64 n,.clos g [] []] (.tup [.arr (pE []),i64 3]):=by
 have hon:=bs_ n 0 63;rw[decide_eq_true h] at hon;refine f_n Tryz.func196 ?_ ?_;exact ab_ (ad_ _) (ab_ (ba_ ah_ ah_) ah_);refine r_z 3 ?_;refine aa_ (r_c 2 (hon) ?_);refine ai_ ?_;refine cT (r_z 2 ?_);refine af_ (Fin.many ⟨_,_,rfl,rfl,⟨_,_,rfl,rfl,rfl⟩⟩ (nle rfl) ?_);exact ag_ (Cv.emp _) (ag_ (an_ ar_ (ad_ _)) ao_)
theorem fs_Herm1(j:Nat)(hj:j≤40):FS 197 [i64 ((2* (j+1):Nat):Int)] (.agg (qC (evK 1 (2* (j+1))))):=by
 have h1:=aV_ (((2* (j+1):Nat):Int)- 1) (by omega);have h2:=aV_ 2 (by decide);have q1:=qi21 (n:=((2* (j+1):Nat):Int)- 1) (by omega);have q2:=qi21 (n:=2) (by decide);have h3:=eg_ ((((2* (j+1):Nat):Int)- 1:Int):Rat) ((2:Int):Rat) (by decide) (by omega);refine f_c Tryz.func197 ?_;refine r_z 1 ?_;refine r_c 6 (h1) ?_;refine c_s (h2) ?_;refine c_s (h3) ?_;refine a_z ?_;exact af_ (c_e (aI_ _))
theorem o6_{n:Int}(h:n≠0):(n:Rat)≠0:=fun e=>h (by have:=congrArg Rat.num e;exact this)
theorem fs_Firs1(j:Nat)(hj:j≤40):FS 199 [i64 ((2* (j+1):Nat):Int)] (.agg (qC (evK 2 (2* (j+1))))):=by
 have h1:=aV_ (((2* (j+1):Nat):Int)- 1) (by omega);have h2:=aV_ ((2* (j+1):Nat):Int) (by omega);have q1:=qi21 (n:=((2* (j+1):Nat):Int)- 1) (by omega);have q2:=qi21 (n:=((2* (j+1):Nat):Int)) (by omega);have h3:=eg_ ((((2* (j+1):Nat):Int)- 1:Int):Rat) (((2* (j+1):Nat):Int):Rat) (o6_ (by omega)) (by omega);refine f_c Tryz.func199 ?_;refine r_z 1 ?_;refine r_c 7 (h1) ?_;refine c_s (h2) ?_;refine c_s (h3) ?_;refine a_z ?_;exact af_ (c_e (aI_ _))
theorem fs_Seco1(j:Nat)(hj:j≤40):FS 200 [i64 ((2* (j+1):Nat):Int)] (.agg (qC (evK 3 (2* (j+1))))):=by
 have h1:=aV_ (((2* (j+1):Nat):Int)- 1) (by omega);have h2:=aV_ (((2* (j+1):Nat):Int)+2) (by omega);have q1:=qi21 (n:=((2* (j+1):Nat):Int)- 1) (by omega);have q2:=qi21 (n:=((2* (j+1):Nat):Int)+2) (by omega);have h3:=eg_ ((((2* (j+1):Nat):Int)- 1:Int):Rat) ((((2* (j+1):Nat):Int)+2:Int):Rat) (o6_ (by omega)) (by omega);refine f_c Tryz.func200 ?_;refine r_z 1 ?_;refine r_c 8 (h1) ?_;refine c_s (h2) ?_;refine c_s (h3) ?_;refine a_z ?_;exact af_ (c_e (aI_ _))
theorem mP_(m:List Rat):FS 198 [.arr (pE m),i64 0] (.tup [.agg (wC m true true (qC ((-1:Int):Rat)) (qC ((1:Int):Rat))),i64 0]):=by
 have h1:=aV_ 1 (by decide);have h2:=aV_ (-1) (by decide);refine f_c Tryz.func198 ?_;refine r_z 2 ?_;refine aa_ (s_r 2 ?_);refine a_1 ?_;refine o_0 (.bin rfl rfl (vF bd_ (rfl))) ?_;refine ai_ ?_;refine cF (ae_ (r_c 6 (h2) ?_));refine c_s (h1) ?_;refine a_z ?_;refine af_ (Fin.many ⟨_,_,rfl,⟨_,_,_,_,_,rfl,rfl,rfl,.inl ⟨TG.h,_,TS.h,nle rfl,rfl⟩⟩,⟨_,_,rfl,rfl,rfl⟩⟩ (nle rfl) ?_);exact ag_ (an_ ar_ (au_ (a7_ (.inr ⟨_,rfl⟩) (.inr ⟨_,rfl⟩)))) (ag_ (an_ ar_ (ad_ _)) ao_)
theorem mO_(m:List Rat):FS 198 [.arr (pE m),i64 3] (.tup [.agg wZ,i64 3]):=by
 refine f_c Tryz.func198 ?_;refine r_z 2 ?_;refine aa_ (s_r 2 ?_);refine a_1 ?_;refine o_0 (.bin rfl rfl (vT bd_ (rfl))) ?_;refine ai_ ?_;refine cT (r_z 4 ?_);refine af_ (Fin.many ⟨_,_,rfl,⟨_,_,_,_,_,rfl,rfl,rfl,.inl ⟨TG.h,_,TS.h,nle rfl,rfl⟩⟩,⟨_,_,rfl,rfl,rfl⟩⟩ (nle rfl) ?_);exact ag_ (Cv_wZ ar_) (ag_ (an_ ar_ (ad_ _)) ao_)
theorem kz_(m:List Rat)(n e:Int)(h:FS 196 [i64 n,.clos 197 [] []] (.tup [.arr (pE m),i64 e])):FS 108 [i64 n] (.tup [.agg (wC m false false (qC 0) (qC 0)),i64 e]):=by
 refine f_c Tryz.func108 ?_;refine r_z 2 ?_;refine r_c 7 (h) ?_;refine a_z ?_;refine r_z 5 ?_;refine af_ (Fin.many ⟨_,_,rfl,⟨_,_,_,_,_,rfl,rfl,rfl,.inl ⟨TG.h,_,TS.h,nle rfl,rfl⟩⟩,⟨_,_,rfl,rfl,rfl⟩⟩ (nle rfl) ?_);exact ag_ (Cv_wz ar_ _ _ _) (ag_ (an_ ar_ (ad_ _)) ao_)
theorem px_(m:List Rat)(n e:Int)(m':List Rat)(l r:Bool)(a b:Rat)(h:FS 196 [i64 n,.clos 199 [] []] (.tup [.arr (pE m),i64 e]))(ha:FS 198 [.arr (pE m),i64 e] (.tup [.agg (wC m' l r (qC a) (qC b)),i64 e])):
    FS 109 [i64 n] (.tup [.agg (wC m' l r (qC a) (qC b)),i64 e]):=by
 refine f_c Tryz.func109 ?_;refine r_z 2 ?_;refine r_c 9 (h) ?_;refine c_s (ha) ?_;refine a_z ?_;refine af_ (Fin.many ⟨_,_,rfl,⟨_,_,_,_,_,rfl,rfl,rfl,.inl ⟨TG.h,_,TS.h,nle rfl,rfl⟩⟩,⟨_,_,rfl,rfl,rfl⟩⟩ (nle rfl) ?_);exact ag_ (an_ ar_ (au_ (a7_ (.inr ⟨_,rfl⟩) (.inr ⟨_,rfl⟩)))) (ag_ (an_ ar_ (ad_ _)) ao_)
theorem mQ_(m:List Rat)(n e:Int)(m':List Rat)(l r:Bool)(a b:Rat)(h:FS 196 [i64 n,.clos 200 [] []] (.tup [.arr (pE m),i64 e]))(ha:FS 198 [.arr (pE m),i64 e] (.tup [.agg (wC m' l r (qC a) (qC b)),i64 e])):
    FS 110 [i64 n] (.tup [.agg (wC m' l r (qC a) (qC b)),i64 e]):=by
 refine f_c Tryz.func110 ?_;refine r_z 2 ?_;refine r_c 9 (h) ?_;refine c_s (ha) ?_;refine a_z ?_;refine af_ (Fin.many ⟨_,_,rfl,⟨_,_,_,_,_,rfl,rfl,rfl,.inl ⟨TG.h,_,TS.h,nle rfl,rfl⟩⟩,⟨_,_,rfl,rfl,rfl⟩⟩ (nle rfl) ?_);exact ag_ (an_ ar_ (au_ (a7_ (.inr ⟨_,rfl⟩) (.inr ⟨_,rfl⟩)))) (ag_ (an_ ar_ (ad_ _)) ao_)
end Go.Proofs.YtdjfjpeoddmamaaGreatDoor
namespace Go.Proofs.YtdjfjpeoddmamaaGreatDoor
open Go.Shelf
def qq_:Go.Shelf.Ren:=⟨fun|171=>172|243=>242|246=>289|283=>315|284=>316|285=>317|286=>318|129=>330|317=>329|318=>331|319=>332|320=>333|337=>335|338=>336|n=>n,fun|3=>3|9=>9|2=>2|4=>4|171=>337|0=>0|53=>235|37=>221|5=>5|173=>340|212=>351|51=>236|20=>20|213=>352|46=>318|232=>356|233=>357|n=>n,fun|17=>0|18=>2|19=>3|n=>n⟩
theorem lay171:Go.Proofs.LaysM.n171 Tryz.prog qq_:={
 mixed:=by kernel_rfl,
 f129:=Tryz.func330.trans (congrArg some (by kernel_rfl)),
 f171:=Tryz.func172.trans (congrArg some (by kernel_rfl)),
 f243:=Tryz.func242.trans (congrArg some (by kernel_rfl)),
 f246:=Tryz.func289.trans (congrArg some (by kernel_rfl)),
 f283:=Tryz.func315.trans (congrArg some (by kernel_rfl)),
 f284:=Tryz.func316.trans (congrArg some (by kernel_rfl)),
 f285:=Tryz.func317.trans (congrArg some (by kernel_rfl)),
 f286:=Tryz.func318.trans (congrArg some (by kernel_rfl)),
 f317:=Tryz.func329.trans (congrArg some (by kernel_rfl)),
 f318:=Tryz.func331.trans (congrArg some (by kernel_rfl)),
 f319:=Tryz.func332.trans (congrArg some (by kernel_rfl)),
 f320:=Tryz.func333.trans (congrArg some (by kernel_rfl)),
 f337:=Tryz.func335.trans (congrArg some (by kernel_rfl)),
 f338:=Tryz.func336.trans (congrArg some (by kernel_rfl)),
 t0:=Tryz.underlying0,
 a0:=Tryz.isAgg0,
 z0:=Tryz.sizeOf0,
 v0:=Tryz.zeroValue0,
 t2:=Tryz.underlying2,
 a2:=Tryz.isAgg2,
 z2:=Tryz.sizeOf2,
 v2:=Tryz.zeroValue2,
 t3:=Tryz.underlying3,
 a3:=Tryz.isAgg3,
 z3:=Tryz.sizeOf3,
 v3:=Tryz.zeroValue3,
 t4:=Tryz.underlying4,
 a4:=Tryz.isAgg4,
 z4:=Tryz.sizeOf4,
 v4:=Tryz.zeroValue4,
 t5:=Tryz.underlying5,
 a5:=Tryz.isAgg5,
 z5:=Tryz.sizeOf5,
 v5:=Tryz.zeroValue5,
 t9:=Tryz.underlying9,
 a9:=Tryz.isAgg9,
 z9:=Tryz.sizeOf9,
 v9:=Tryz.zeroValue9,
 t20:=Tryz.underlying20,
 a20:=Tryz.isAgg20,
 z20:=Tryz.sizeOf20,
 v20:=Tryz.zeroValue20,
 t37:=Tryz.underlying221,
 a37:=Tryz.isAgg221,
 z37:=Tryz.sizeOf221,
 v37:=Tryz.zeroValue221,
 t46:=Tryz.underlying318,
 a46:=Tryz.isAgg318,
 z46:=Tryz.sizeOf318,
 v46:=Tryz.zeroValue318,
 t51:=Tryz.underlying236,
 a51:=Tryz.isAgg236,
 z51:=Tryz.sizeOf236,
 v51:=Tryz.zeroValue236,
 t53:=Tryz.underlying235,
 a53:=Tryz.isAgg235,
 z53:=Tryz.sizeOf235,
 v53:=Tryz.zeroValue235,
 t171:=Tryz.underlying337,
 a171:=Tryz.isAgg337,
 z171:=Tryz.sizeOf337,
 v171:=Tryz.zeroValue337,
 t173:=Tryz.underlying340,
 a173:=Tryz.isAgg340,
 z173:=Tryz.sizeOf340,
 v173:=Tryz.zeroValue340,
 t212:=Tryz.underlying351,
 a212:=Tryz.isAgg351,
 z212:=Tryz.sizeOf351,
 v212:=Tryz.zeroValue351,
 t213:=Tryz.underlying352,
 a213:=Tryz.isAgg352,
 z213:=Tryz.sizeOf352,
 t232:=Tryz.underlying356,
 a232:=Tryz.isAgg356,
 z232:=Tryz.sizeOf356,
 v232:=Tryz.zeroValue356,
 t233:=Tryz.underlying357,
 a233:=Tryz.isAgg357,
 z233:=Tryz.sizeOf357,
 v233:=Tryz.zeroValue357,
 g17:=by kernel_rfl,
 g18:=by kernel_rfl,
 g19:=by kernel_rfl,
 i0:=by kernel_rfl,
 i2:=by kernel_rfl,
 i3:=by kernel_rfl,
 i4:=by kernel_rfl,
 i5:=by kernel_rfl,
 i9:=by kernel_rfl,
 i20:=by kernel_rfl,
 i37:=by kernel_rfl,
 i46:=by kernel_rfl,
 i51:=by kernel_rfl,
 i53:=by kernel_rfl,
 i171:=by kernel_rfl,
 i173:=by kernel_rfl,
 i212:=by kernel_rfl,
 i232:=by kernel_rfl,
 i233:=by kernel_rfl,
 m17:=by kernel_rfl,
 m18:=by kernel_rfl,
 m19:=by kernel_rfl}
def km_:Go.Shelf.Ren:=⟨fun|105=>240|212=>285|99=>286|165=>287|166=>171|170=>170|169=>173|263=>311|264=>312|206=>313|240=>241|241=>314|276=>288|277=>328|n=>n,fun|9=>9|3=>3|4=>4|20=>20|0=>0|46=>318|109=>319|5=>5|72=>223|76=>226|51=>236|146=>333|53=>235|148=>335|70=>220|37=>221|75=>225|127=>288|164=>323|80=>136|n=>n,fun|n=>n⟩
theorem lay105:Go.Proofs.Lays.n105 Tryz.prog km_:={
 mixed:=by kernel_rfl,
 f99:=Tryz.func286.trans (congrArg some (by kernel_rfl)),
 f105:=Tryz.func240.trans (congrArg some (by kernel_rfl)),
 f165:=Tryz.func287.trans (congrArg some (by kernel_rfl)),
 f166:=Tryz.func171.trans (congrArg some (by kernel_rfl)),
 f169:=Tryz.func173.trans (congrArg some (by kernel_rfl)),
 f170:=Tryz.func170.trans (congrArg some (by kernel_rfl)),
 f206:=Tryz.func313.trans (congrArg some (by kernel_rfl)),
 f212:=Tryz.func285.trans (congrArg some (by kernel_rfl)),
 f240:=Tryz.func241.trans (congrArg some (by kernel_rfl)),
 f241:=Tryz.func314.trans (congrArg some (by kernel_rfl)),
 f263:=Tryz.func311.trans (congrArg some (by kernel_rfl)),
 f264:=Tryz.func312.trans (congrArg some (by kernel_rfl)),
 f276:=Tryz.func288.trans (congrArg some (by kernel_rfl)),
 f277:=Tryz.func328.trans (congrArg some (by kernel_rfl)),
 t0:=Tryz.underlying0,
 a0:=Tryz.isAgg0,
 z0:=Tryz.sizeOf0,
 v0:=Tryz.zeroValue0,
 t3:=Tryz.underlying3,
 a3:=Tryz.isAgg3,
 z3:=Tryz.sizeOf3,
 v3:=Tryz.zeroValue3,
 t4:=Tryz.underlying4,
 a4:=Tryz.isAgg4,
 z4:=Tryz.sizeOf4,
 v4:=Tryz.zeroValue4,
 t5:=Tryz.underlying5,
 a5:=Tryz.isAgg5,
 z5:=Tryz.sizeOf5,
 v5:=Tryz.zeroValue5,
 t9:=Tryz.underlying9,
 a9:=Tryz.isAgg9,
 z9:=Tryz.sizeOf9,
 v9:=Tryz.zeroValue9,
 t20:=Tryz.underlying20,
 a20:=Tryz.isAgg20,
 z20:=Tryz.sizeOf20,
 v20:=Tryz.zeroValue20,
 t37:=Tryz.underlying221,
 a37:=Tryz.isAgg221,
 z37:=Tryz.sizeOf221,
 v37:=Tryz.zeroValue221,
 t46:=Tryz.underlying318,
 a46:=Tryz.isAgg318,
 z46:=Tryz.sizeOf318,
 v46:=Tryz.zeroValue318,
 t51:=Tryz.underlying236,
 a51:=Tryz.isAgg236,
 z51:=Tryz.sizeOf236,
 v51:=Tryz.zeroValue236,
 t53:=Tryz.underlying235,
 a53:=Tryz.isAgg235,
 z53:=Tryz.sizeOf235,
 v53:=Tryz.zeroValue235,
 t70:=Tryz.underlying220,
 a70:=Tryz.isAgg220,
 z70:=Tryz.sizeOf220,
 v70:=Tryz.zeroValue220,
 t72:=Tryz.underlying223,
 a72:=Tryz.isAgg223,
 z72:=Tryz.sizeOf223,
 v72:=Tryz.zeroValue223,
 t75:=Tryz.underlying225,
 a75:=Tryz.isAgg225,
 z75:=Tryz.sizeOf225,
 v75:=Tryz.zeroValue225,
 t76:=Tryz.underlying226,
 a76:=Tryz.isAgg226,
 z76:=Tryz.sizeOf226,
 v76:=Tryz.zeroValue226,
 t109:=Tryz.underlying319,
 a109:=Tryz.isAgg319,
 z109:=Tryz.sizeOf319,
 v109:=Tryz.zeroValue319,
 t127:=Tryz.underlying288,
 a127:=Tryz.isAgg288,
 z127:=Tryz.sizeOf288,
 v127:=Tryz.zeroValue288,
 t146:=Tryz.underlying333,
 a146:=Tryz.isAgg333,
 z146:=Tryz.sizeOf333,
 v146:=Tryz.zeroValue333,
 t148:=Tryz.underlying335,
 a148:=Tryz.isAgg335,
 z148:=Tryz.sizeOf335,
 v148:=Tryz.zeroValue335,
 t164:=Tryz.underlying323,
 a164:=Tryz.isAgg323,
 z164:=Tryz.sizeOf323,
 v164:=Tryz.zeroValue323}
theorem ext105:Builder.Extra Tryz.prog km_:={
 sizeBuilder:=by kernel_rfl,
 liesBuilder:=by kernel_rfl,
 t5:=Tryz.underlying5,
 a5:=Tryz.isAgg5,
 z5:=Tryz.sizeOf5,
 v5:=Tryz.zeroValue5,
 infoByte:=by kernel_rfl,
 cellsByte:=by kernel_rfl,
 sizeByte:=by kernel_rfl,
 neB5:=by decide}
end Go.Proofs.YtdjfjpeoddmamaaGreatDoor
namespace Go.Proofs.YtdjfjpeoddmamaaGreatDoor
open Go.Abs Go.RowKit
theorem tab_glob:(Tryz.prog).globalNamed "internal/strconv.uint64pow10" =some GT:=by kernel_rfl
theorem tab_is{w:World}(h:TabW w):Lib.TabIs Tryz.prog w "internal/strconv.uint64pow10" .u64 Lib.pow10Tab:=by
 obtain⟨t,z,h⟩:=h;unfold Lib.TabIs World.var?;rw[tab_glob];show(match w.heap[GT]? with|some (.cells cs _ _)=>some cs|_=>none)=_;rw[h];rfl
theorem qL_(w:World)(k:Nat)(os:Array Obj):Below w.heap.size w (Sort.grow (w.drewN k) os):=
 ⟨rfl,rfl,rfl,by show w.heap.size≤(w.heap++os).size;simp,fun i hi=>by show(w.heap++os)[i]?=_;rw[Array.getElem?_append_left hi]⟩
theorem fs_ItoaA(n:Nat)(h:n≤9223372036854775807):FS 172 [i64 n] (tx (Lib.decDigits n)):=by
 refine⟨ab_ (ad_ _) ah_,(ob_ 0 (by decide)).enters,fun M w vals hM hargs=>?_⟩;obtain⟨x,xs,rfl,hx,hxs⟩:=hargs;have hx':x= .int .i64 n:=hx;have hxs':xs=[]:=hxs;subst hx';subst hxs';have hc:=Any.strconv_Itoa lay171 (n:Int) (by omega) (by omega) w (tab_is hM.tab);refine Calls.mono hc fun e w' ⟨he,k,os,hw⟩=>⟨_,he,?_,?_⟩;show Value.string _=Value.string _;unfold Lib.itoa;rw[if_neg (by omega),Int.toNat_natCast];rw[hw];exact qL_ w k os
theorem qx_(z:UInt8)(n:Nat)(h:n≤100):FS 240 [tx [z],i64 n] (tx (List.replicate n z)):=by
 have en:∀(xs:Array Value) (w:World),(callFunc 240 xs).run Tryz.prog w= .ok (.enter 240 xs) w:=fun xs w=>jq_ Tryz.func240 (c:=(Tryz.f240).body.get rfl) (by kernel_rfl) rfl xs w;refine⟨ab_ (ad_ _) (ab_ (ad_ _) ah_),en,fun M w vals hM hargs=>?_⟩;obtain⟨x,xs,rfl,hx,y,ys,rfl,hy,hxs⟩:=hargs;have hx':x= .string ⟨[z].toArray⟩:=hx;have hy':y= .int .i64 n:=hy;have hxs':ys=[]:=hxs;subst hx';subst hy';subst hxs';have hc:=Any.strings_Repeat lay105 ext105 ⟨[z].toArray⟩ n w (by omega) (by simp[ByteArray.size];omega);refine Calls.mono hc fun e w' ⟨he,hb⟩=>⟨_,he,?_,hb⟩;show Value.string _=Value.string _;congr 2
 have:∀k,Lib.repeatL [z] k=List.replicate k z:=fun k=>by
  induction k with
  |zero=>rfl
  |succ k ih=>rw[Lib.repeatL,ih,List.replicate_succ];rfl
 exact congrArg List.toArray (this n)
end Go.Proofs.YtdjfjpeoddmamaaGreatDoor
