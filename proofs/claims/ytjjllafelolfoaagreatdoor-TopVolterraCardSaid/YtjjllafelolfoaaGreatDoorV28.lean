/- Part V28 of the proof. -/
import Derived.Test.YtjjllafelolfoaaGreatDoorV27
set_option linter.all false
namespace Go.Proofs.YtjjllafelolfoaaGreatDoor
open Go.Abs
set_option maxRecDepth 100000
set_option maxHeartbeats 2000000
inductive LeLL:List (List AV)→List (List AV)→Prop
 |nil:LeLL [] []
 |cons {e e' es es'}:LeL e e'→LeLL es es'→LeLL (e::es) (e'::es')
theorem leL_len{xs ys:List AV}(h:LeL xs ys):ys.length=xs.length:=by
 induction h with
 |nil=>rfl
 |cons _ _ ih=>simp[ih]
theorem leL_cs{M:Nat→Prop}{β:Nat→Option (Nat×Nat)}{w:World}{b:Nat}{xs ys:List AV}(h:LeL xs ys):∀{off:Nat},RVcs M β w b xs off→RVcs M β w b ys off:=by
 induction h with
 |nil=>exact fun h=>h
 |cons h1 _ ih=>rintro off ⟨⟨x,hx,hr⟩,hs⟩;exact⟨⟨x,hx,h1 M β w x hr⟩,ih hs⟩
theorem LeLL.ess{M:Nat→Prop}{β:Nat→Option (Nat×Nat)}{w:World}{b s:Nat}{es es':List (List AV)}(h:LeLL es es'):∀{off:Nat},RVess M β w b s es off→RVess M β w b s es' off:=by
 induction h with
 |nil=>exact fun h=>h
 |cons h1 _ ih=>rintro off ⟨h0,hc,hr⟩;exact⟨(leL_len h1).trans h0,leL_cs h1 hc,ih hr⟩
theorem LeLL.length{es es':List (List AV)}(h:LeLL es es'):es'.length=es.length:=by
 induction h with
 |nil=>rfl
 |cons _ _ ih=>simp[ih]
theorem Le.arr{es es':List (List AV)}(h:LeLL es es'):Le (.arr es) (.arr es'):=by
 rintro M β w y ⟨a,c,rfl,h1,h2,h3⟩;refine⟨a,c,by rw[h.length],by rw[h.length];exact h1,h2,h3.imp (fun e=>?_) ?_⟩;subst e;cases h;rfl;rintro⟨b,off,s,rfl,hN,hm,hr⟩;exact⟨b,off,s,rfl,hN,hm,h.ess hr⟩
section
variable {P:Go.Program}{T:Nat}{x y:Operand}
end
theorem jy_(p:List Rat)(n:Nat)(hs:bdL p 256)(hl:p.length≤12)(hn:n≤6)(hb:∀k,k≤n→pB p.length k≤1073741824):FS 194 [.arr (pE p),i64 n] (.arr (pE (powP p n))):=by
 refine f_c Tryz.func194 ?_;refine r_z 1 ?_;refine r_c 8 (fs_Power p n hs hl hn hb) ?_;refine a_z ?_;refine r_z 2 ?_;exact ad_ (t_e (ap_ _))
theorem qV_(p:List Rat)(o:okMul p [0,1]):FS 18 [.arr (pE p),.arr [zC,qC ((1:Int):Rat)]] (.arr (pE (mulP p [0,1]))):=
 (jD_ p [0,1] (mxL _) (mxL _) (bB_ _) (bB_ _) (br_ _) (br_ _) o.1 o.2.1 o.2.2.1 o.2.2.2).weak
  (.cons (Le.refl _) (.cons (Le.arr (.cons le_zC (.cons (LeL.refl _) .nil))) .nil)) (aa_ (ap_ p) (aa_ (aL_ fun e he c hc=>by
   rcases List.mem_cons.1 he with rfl|he
   exact dY_ c hc;rw[List.mem_singleton.1 he] at hc;exact aN_ _ c hc) ac_))
def moT(f:List Rat)(s:Sp)(k:Nat):Option (List AV):=some [.agg (qC (moQ f s k))]
theorem qr_(f:List Rat)(s:Sp)(K:Nat)(hK:K≤1000000)(hok:∀k,k≤K→okMo f s k):GSpecB Tryz.prog 196 [bP f,bS s] (moT f s) K:=by
 have hcb:Closed (bP f):=bo_ f;have hcs:Closed (bS s):=ez_ s;refine GSpecB.enter Tryz.func196 rfl (by kernel_rfl) rfl rfl rfl ?_ ?_ rfl ?_;exact aa_ hcb (aa_ hcs ac_);intro k xs h;cases h;exact aa_ (az_ _) ac_;intro ll N hN E;refine GWp.seq ?_;refine GWp.lift ?_;refine r_m 2 ?_;refine a_z ?_;refine GWp.block ?_;refine GWp.loopS (fun k:Nat=>⟨[(0,.v (.func (.yield ll) #[] #[])),(1,bP f),(2,bS s),(4,.arr (pE (gK f k)))],[],1,16⟩) (fun k=>k) (fun k=>N+1- k) (fun k=>k≤N) 0 (Nat.zero_le _) rfl ?_ ?_;exact s_e [];intro k hk;obtain⟨o1,o2,o3,o4,o5⟩:=hok k (by omega);have hin:FS 197 [.arr (pE (gK f k)),.agg (spC s.1 s.2)] (.agg (qC (moQ f s k))):=mz_ (gK f k) s.1 s.2 o1 o2 o3 o4;refine GWp.seq ?_;refine GWp.seq ?_;refine GWp.regY (fr2:=[(0,.v (.func (.yield ll) #[] #[])),(1,bP f),(2,bS s),(4,.arr (pE (gK f k))),(6,.v (.func (.yield ll) #[] #[])),(9,.agg (qC (moQ f s k)))]) (hp2:=[]) (nx2:=1) 4 rfl rfl rfl rfl rfl rfl ?_ rfl rfl rfl ?_ ?_ ?_;refine o_0 (.move rfl) ?_;refine o_0 (.move rfl) ?_
 first|refine aK_ (.load_l rfl rfl rfl TG.h TS.h (nle rfl)) rfl rfl ?_|refine aK_ (.load_a rfl rfl TG.h TS.h (nle rfl)) rfl rfl ?_
 refine o_0 (.call rfl rfl rfl (hin)) ?_;refine ak_ ?_;exact s_y [] (fun hs=>au_f) (fun hs=>au_h);rotate_left 2;intro go;refine ak_ ?_;rotate_left;rfl;exact aa_ (az_ _) ac_;cases go with
 |false=>
  refine GWp.cond rfl (fun h=>?_) (fun h=>?_);cases h;exact GWp.exit ⟨.inl rfl,fun h=>by cases h⟩
 |true=>
  refine GWp.bound fun hk1=>?_;refine GWp.cond rfl (fun h=>?_) (fun h=>?_);rotate_left;cases h;refine GWp.skip ?_;have hwh:=bU_ 1 (by decide);have hmu:=qV_ (gK f k) o5;refine GWp.lift ?_;refine ae_ (r_m 6 ?_);refine c_s (hwh) ?_;refine a_1 ?_;refine o_1 (.callS1 rfl rfl rfl (.keep (.shut rfl d_n (.nil))) rfl (hmu)) ?_;refine a_z ?_;refine⟨rfl,k+1,by omega,hk1,rfl,?_⟩;exact s_e []
theorem h2_(l:List Rat)(q:Rat):pE (l++[q])=pE l++[qC q]:=by simp[pE]
def tk0(g:Nat)(cap:List AV)(n:Int):Unit→AState
 |u=>⟨[(3,.lptr 1 0 0),(5,.lptr 2 0 0),(7,.clos g [] cap)],[(1,some ⟨3,1,[[i64 n]]⟩),(2,some ⟨27,1,[[.emp]]⟩)],4,18⟩
def tk1(g:Nat)(cap:List AV)(n:Int)(sq:Nat→Rat):Nat→AState
 |k=>⟨[(3,.lptr 1 0 0),(5,.lptr 2 0 0),(7,.clos g [] cap)],[(1,some ⟨3,1,[[i64 n]]⟩),(2,some ⟨27,1,[[.lsl 3 0 (k+1) none 3]]⟩),(3,some ⟨39,3,pE (sqL sq (k+1))⟩)],4,18⟩
def tkX(z:Nat)(sq:Nat→Rat):Unit→AState
 |u=>⟨[(5,.lptr 1 0 0)],[(1,some ⟨27,1,[[.lsl 2 0 (z+1) none 3]]⟩),(2,some ⟨39,3,pE (sqL sq (z+1))⟩)],4,18⟩
def tkS(g:Nat)(cap:List AV)(n:Int)(sq:Nat→Rat):Nat→AState
 |0=>tk0 g cap n ()
 |k+1=>tk1 g cap n sq k
theorem fs_taken(g:Nat)(cap:List AV)(hcap:∀c∈cap,Closed c)(sq:Nat→Rat)(n:Nat)(hn:n≤1000)(hcm:cap.map coe=cap)(hgs:GSpecB Tryz.prog g (cap.map coe) (fun k=>some [.agg (qC (sq k))]) n):FS 198 [.clos g [] cap,i64 n] (.arr (pE (sqL sq (n+1)))):=by
 have hcF:Closed (.clos g [] cap):=aG_ ac_ hcap;refine f_c Tryz.func198 ?_;refine r_z 2 ?_;refine r_z 1 ?_;refine ab_ (r_z 1 ?_);refine ay_ (tkX n sq) (fun _=>True) ?_ ?_;refine ae_ (AWp.rangeFuncB (α:=Nat) (γ:=Unit) n (tkS g cap n sq) (fun k=>k) (fun k=>k≤n) (tkX n sq) (fun e _=>e= .exit 0) 0 rfl hgs rfl rfl ?_ (fun k=>by cases k <;> exact⟨rfl,rfl⟩) (fun _=>rfl) (Nat.zero_le _) rfl (fun _ h=>h) ?_ ?_ ?_ ?_ ?_);intro k xs hT;cases hT;rfl;show SEntT _ (tk0 g cap n ());rw[tk0.eq_1];exact s_t [(1,3),(2,5)];rw[hcm];exact hcap
 ·intro l k xs hk hT
  cases hT;cases k with
  |zero=>
   show AWp _ _ _ _ ⟨setPs (tk0 g cap n ()).fr _ _++cG_ (tk0 g cap n ()).fr,_,_,_⟩;show AWp _ _ _ _ ⟨[(8,.agg (qC (sq 0))),(3,.lptr 1 0 0),(5,.lptr 2 0 0),(7,.clos g [] cap),(1003,.lptr 1 0 0),(1005,.lptr 2 0 0),(1007,.clos g [] cap)],[(1,some ⟨3,1,[[i64 n]]⟩),(2,some ⟨27,1,[[.emp]]⟩)],4,18⟩;refine r_m 2 ?_;refine a_z ?_;refine ae_ (s_r 5 ?_);refine a_3 ?_;refine o_1 (.append_e rfl rfl rfl te_27.h rfl rfl rfl (.lsl rfl (nle rfl)) (by first|assumption|(simp;done)) TZ.h rfl TB.h d_o (by first|(simp[maxLen];done)|(simp[maxLen];omega))) ?_;refine a_z ?_;refine r_z 4 ?_;refine ai_ rfl (fun h1=>?_) (fun h1=>?_)
   have h2:n=0:=by
    simp at h1;omega
   subst h2;refine ar_ (⟨rfl,(),rfl,?_⟩);show SEntT _ ⟨[(1005,.lptr 1 0 0)],[(1,some ⟨27,1,[[.lsl 2 0 (0+1) none 3]]⟩),(2,some ⟨39,3,pE (sqL sq (0+1))⟩)],4,18⟩;have:=aF_ [sq 0];exact s_t [(1,1005),(2,12)]
   have h2:¬n=0:=by
    simp at h1;omega
   refine ag_ (⟨0+1,⟨by omega,rfl⟩,?_⟩);show SEntT _ ⟨[(1003,.lptr 1 0 0),(1005,.lptr 2 0 0),(1007,.clos g [] cap)],[(1,some ⟨3,1,[[i64 n]]⟩),(2,some ⟨27,1,[[.lsl 3 0 (0+1) none 3]]⟩),(3,some ⟨39,3,pE (sqL sq (0+1))⟩)],4,18⟩;have:=aF_ [sq 0];exact s_t [(3,12)]
  |succ k=>
   show AWp _ _ _ _ ⟨setPs (tk1 g cap n sq k).fr _ _++cG_ (tk1 g cap n sq k).fr,_,_,_⟩;have e:pE (sqL sq (k+1))++[qC (sq (k+1))]=pE (sqL sq (k+1+1)):=by rw[he_ sq (k+1),h2_]
   show AWp _ _ _ _ ⟨[(8,.agg (qC (sq (k+1)))),(3,.lptr 1 0 0),(5,.lptr 2 0 0),(7,.clos g [] cap),(1003,.lptr 1 0 0),(1005,.lptr 2 0 0),(1007,.clos g [] cap)],[(1,some ⟨3,1,[[i64 n]]⟩),(2,some ⟨27,1,[[.lsl 3 0 (k+1) none 3]]⟩),(3,some ⟨39,3,pE (sqL sq (k+1))⟩)],4,18⟩;refine r_m 2 ?_;refine a_z ?_;refine ae_ (r_z 5 ?_);refine r_z 4 ?_;refine ai_ rfl (fun h1=>?_) (fun h1=>?_)
   have h2:n=k+1:=by
    simp at h1;omega
   subst h2;refine ar_ (⟨rfl,(),rfl,?_⟩);show SEntT _ ⟨[(1005,.lptr 1 0 0)],[(1,some ⟨27,1,[[.lsl 2 0 ((k+1)+1) none 3]]⟩),(2,some ⟨39,3,pE (sqL sq ((k+1)+1))⟩)],4,18⟩;exact s_t [(1,1005),(2,12)]
   have h2:¬n=k+1:=by
    simp at h1;omega
   refine ag_ (⟨k+1+1,⟨by omega,rfl⟩,?_⟩);show SEntT _ ⟨[(1003,.lptr 1 0 0),(1005,.lptr 2 0 0),(1007,.clos g [] cap)],[(1,some ⟨3,1,[[i64 n]]⟩),(2,some ⟨27,1,[[.lsl 3 0 ((k+1)+1) none 3]]⟩),(3,some ⟨39,3,pE (sqL sq ((k+1)+1))⟩)],4,18⟩;exact s_t [(3,12)]
 intro k hk hT;cases hT;rintro e u rfl;exact⟨u,trivial,SEnt.refl _⟩;rintro u _;rw[tkX.eq_1];refine r_z 2 ?_;exact ad_ (Fin.tmpS rfl rfl rfl (by simp) (aF_ _))
def w0C:List AV:=[.emp,bln false,bln false]++zC++zC
theorem oU_:∀c∈w0C,Closed c:=fun c hc=>by
 unfold w0C at hc;rcases List.mem_append.1 hc with hc|hc
 rcases List.mem_append.1 hc with hc|hc
 exact aa_ cb_ (aa_ (af_ _) (aa_ (af_ _) ac_)) c hc;exact dY_ c hc;exact dY_ c hc
theorem mD_(a b:Rat)(n:Nat)(hn:n≤63)(hab:a< b)(ha:qs a≤256)(hb:qs b≤256)(hok:∀k,k≤n→okMo [1] (a,b) k):
    FS 81 [.agg (spC a b),i64 0,i64 0,i64 n] (.tup [.agg (wC (sqL (moQ [1] (a,b)) (n+1)) true true (qC a) (qC b)),i64 0]):=by
 have sa:sm a:=Nat.le_trans ha (by decide);have sb:sm b:=Nat.le_trans hb (by decide);have hva:=ep_ a b sa sb;rw[decide_eq_true (show cmpQ a b≤0 by unfold cmpQ;rw[if_pos hab];decide)] at hva;have hsi:=bP_ (b- a);have hne:¬sgZ (b- a).num=0:=fun e=>by have:=sgZ_num_eq.1 e;grind
 have ho0:=eo_ 0 0 8;rw[decide_eq_false (by decide)] at ho0;have hon:=eo_ (n:Nat) 0 63;rw[decide_eq_false (by omega)] at hon
 have hp1:FS 194 [.arr [qC (-a),qC ((1:Int):Rat)],i64 0] (.arr (pE [1])):=jy_ [-a,1] 0 (fun q hq=>by
  rcases List.mem_cons.1 hq with rfl|hq
  rw[cQ_];exact ha;rw[List.mem_singleton.1 hq];decide) (by simp) (by decide) (fun k hk=>by
  have:k=0:=by omega
  subst this;show pB 2 0≤_;decide)
 have hp2:FS 194 [.arr [qC b,qC ((-1:Int):Rat)],i64 0] (.arr (pE [1])):=jy_ [b,-1] 0 (fun q hq=>by
  rcases List.mem_cons.1 hq with rfl|hq
  exact hb;rw[List.mem_singleton.1 hq];decide) (by simp) (by decide) (fun k hk=>by
  have:k=0:=by omega
  subst this;show pB 2 0≤_;decide)
 have hmu:=jD_ [1] [1] 1 1 (by decide) (by decide) (by decide) (by decide) (by decide) (by decide) (by decide) (by decide);rw[show mulP [1] [1]=[1] by decide+kernel] at hmu;have htk:=fs_taken 196 [bP [1],bS (a,b)] (aa_ (bo_ _) (aa_ (ez_ _) ac_)) (moQ [1] (a,b)) n (by omega) rfl (qr_ [1] (a,b) n (by omega) hok);refine f_c Tryz.func81 ?_;refine r_z 3 ?_;refine a2_ (fun _:Unit=>⟨[(1,i64 0),(2,i64 0),(3,i64 n),(4,.lptr 1 0 0),(8,.lptr 2 0 0)],[(1,some ⟨62,6,[spC a b]⟩),(2,some ⟨160,9,[w0C]⟩)],3,58⟩) (fun _=>True) ?_ ?_;refine ae_ (r_c 10 (hva) ?_);refine c_s (iu_ a b sa sb) ?_;refine c_s (hsi) ?_;refine d_z ?_;refine cF (r_c 11 (ho0) ?_);refine c_s (ho0) ?_;refine c_s (hon) ?_;refine a_z ?_;refine cF (ag_ ⟨(),trivial,?_⟩);refine s_x [(1,4),(2,8)] (fun hs=>au_f) (fun hs=>?_)
 ·repeat' (first|exact aC_|refine h_c ?_ ?_|exact aA_ (CvL.clo hs (fun c hc=>(List.mem_append.1 hc).elim (aN_ _ c) (aN_ _ c)))|exact aA_ (CvL.clo hs oU_)|exact au_e)
 rintro _ _;refine ab_ (r_d hmix 16 ?_);refine c_s (eX_ a) ?_;refine c_s (bU_ 1 (by decide)) ?_;refine a_2 ?_;refine o_1 (.callS1 rfl rfl rfl (.shut rfl d_n (.keep (.nil))) rfl (hp1)) ?_;refine c_s (bU_ (-1) (by decide)) ?_;refine a_2 ?_;refine o_1 (.callS1 rfl rfl rfl (.shut rfl d_n (.keep (.nil))) rfl (hp2)) ?_;refine c_s (hmu) ?_;refine a_2 ?_;refine ak_ (n_k ?_);refine AWp.ent (st':=⟨[(3,i64 n),(4,bS (a,b)),(8,.lptr 1 0 0),(10,bP [1])],[(1,some ⟨160,9,[w0C]⟩)],2,58⟩) ?_ ?_;exact s_f [(1,8)];refine r_z 2 ?_;refine ab_ (r_d hmix 10 ?_);refine c_s (htk) ?_;refine a_7 ?_;refine ak_ (n_k ?_);refine ad_ (Fin.many ⟨_,_,rfl,⟨_,_,_,_,_,rfl,rfl,rfl,.inl ⟨TG.h,_,TS.h,nle rfl,rfl⟩⟩,⟨_,_,rfl,rfl,rfl⟩⟩ (nle rfl) ?_);exact ah_ (au_ av_ (aB_ (dd_ (.inr ⟨a,rfl⟩) (.inr ⟨b,rfl⟩)))) (ah_ (au_ av_ (af_ _)) aq_)

theorem qE_(m p:List Rat)(l r:Bool)(a b:Rat)(h:okOf m p):FS 290 [.agg (wC m l r (qC a) (qC b)),.arr (pE p)] (.agg (qC (ofP m p))):=
 fs_of p m l r a b (mxL p) (mxL m) (bB_ p) (bB_ m) (br_ p) (br_ m) h.1 h.2.1 h.2.2
theorem fV_(p q:List Rat)(o:okMul p q):FS 18 [.arr (pE p),.arr (pE q)] (.arr (pE (mulP p q))):=
 jD_ p q (mxL p) (mxL q) (bB_ p) (bB_ q) (br_ p) (br_ q) o.1 o.2.1 o.2.2.1 o.2.2.2
def ldC(W:List AV)(p q:AV)(nm:List AV)(a b:AV):List AV:=W++[p,q]++nm++[a,b]
def ldF(m:List Rat)(l r:Bool)(a b:Rat)(k:Nat):List AV:=ldC (wC m l r (qC a) (qC b)) (.arr (pE (ldr m k).1)) (.arr (pE (ldr m k).2.1)) (qC (ldr m k).2.2) (.arr (pE (sqL (ldAk m) k))) (.arr (pE (sqL (ldB m) k)))
theorem fA_(m:List Rat)(l r:Bool)(a b:Rat)(k:Nat):∀c∈ldF m l r a b k,Closed c:=fun c hc=>by
 unfold ldF ldC at hc;rcases List.mem_append.1 hc with hc|hc
 rcases List.mem_append.1 hc with hc|hc
 rcases List.mem_append.1 hc with hc|hc
 exact dd_ (.inr ⟨a,rfl⟩) (.inr ⟨b,rfl⟩) c hc;exact aa_ (ap_ _) (aa_ (ap_ _) ac_) c hc;exact aN_ _ c hc;exact aa_ (ap_ _) (aa_ (ap_ _) ac_) c hc
theorem fD_{r:Ren}{hp hp':Nat→Option ABlk}:∀{a b c d:List AV},CvL r hp hp' a b→CvL r hp hp' c d→CvL r hp hp' (a++c) (b++d)
 |[],_,_,_,h,h2=>by cases h;exact h2
 |x::xs,_,_,_,⟨y,ys,e,h1,h3⟩,h2=>by subst e;exact⟨y,_,rfl,h1,fD_ h3 h2⟩
theorem iT_{r:Ren}{hp hp':Nat→Option ABlk}(W:List AV){p q a b p' q' a' b':AV}{nm nm':List AV}(h:Shr r hp hp')(hW:∀c∈W,Closed c)(h1:Cv r hp hp' p p')(hq:Cv r hp hp' q q')(hn:CvL r hp hp' nm nm')(ha:Cv r hp hp' a a')(hb:Cv r hp hp' b b'):CvL r hp hp' (ldC W p q nm a b) (ldC W p' q' nm' a' b'):=
 fD_ (fD_ (fD_ (CvL.clo h hW) (ah_ h1 (ah_ hq aq_))) hn) (ah_ ha (ah_ hb aq_))
theorem gD_{r:Ren}{hp hp':Nat→Option ABlk}{id n:Nat}{cap:Option Nat}{B:ABlk}{L:List Rat}(h:Shr r hp hp')(hi:cellF hp id=some B)(hi':Dead r hp' id)(he:B.es=pE L)(hn:n=L.length):Cv r hp hp' (.lsl id 0 n cap 3) (.arr (pE L)):=
 Cv.shut h hi hi' (by rw[he,hn];simp) (aJ_ h (by rw[he,List.drop_zero];exact List.take_of_length_le (by simp[hn])) (aF_ _))
theorem rM_{r:Ren}{hp hp':Nat→Option ABlk}(h:Shr r hp hp'):CvL r hp hp' zC (qC 0):=by
 rw[qC0];exact ah_ (Cv.emp _) (ah_ (au_ h (af_ _)) (ah_ (Cv.emp _) aq_))
def clS(m:List Rat)(l r:Bool)(a b:Rat)(n:Nat):Nat→AState
 |0=>⟨[(17,i64 n),(18,i64 ((0:Nat):Int)),(6,.lptr 1 0 0)],[(1,some ⟨270,16,[ldC (wC m l r (qC a) (qC b)) (.arr (pE [1])) .emp zC .emp .emp]⟩)],2,113⟩
 |k+1=>⟨[(17,i64 n),(18,i64 ((k+1:Nat):Int)),(6,.lptr 1 0 0)],[(1,some ⟨270,16,[ldC (wC m l r (qC a) (qC b)) (.arr (pE (ldr m (k+1)).1)) (.arr (pE (ldr m (k+1)).2.1)) (qC (ldr m (k+1)).2.2) (.lsl 2 0 (k+1) none 3) (.lsl 3 0 (k+1) none 3)]⟩),(2,some ⟨39,3,pE (sqL (ldAk m) (k+1))⟩),(3,some ⟨39,3,pE (sqL (ldB m) (k+1))⟩)],4,113⟩
def clX(m:List Rat)(l r:Bool)(a b:Rat)(n k:Nat):AState:=⟨[(17,i64 n),(18,i64 k),(6,.lptr 1 0 0)],[(1,some ⟨270,16,[ldF m l r a b k]⟩)],2,113⟩
set_option maxHeartbeats 2000000 in
theorem qJ_(m:List Rat)(l r:Bool)(a b:Rat)(n d:Nat)(hn:n≤1000)(hd:d≤n)(hok:∀k,k< d→okLd m k)(hbad:d< n→okMul (ldr m d).1 (ldr m d).1∧okOf m (mulP (ldr m d).1 (ldr m d).1)∧¬0< ldN m (ldr m d).1):
    FS 209 [.agg (wC m l r (qC a) (qC b)),i64 n] (.tup [.aptr [ldF m l r a b d] 0 0,bln (decide (d=n))]):=by
 have hWc:∀c∈wC m l r (qC a) (qC b),Closed c:=dd_ (.inr ⟨a,rfl⟩) (.inr ⟨b,rfl⟩);refine f_c Tryz.func209 ?_;refine r_z 3 ?_;refine ab_ (r_d hmix 6 ?_);refine c_s (bU_ 1 (by decide)) ?_;refine a_4 ?_;refine ak_ (n_k ?_);refine ab_ (r_z 2 ?_);refine ay_ (fun _:Unit=>⟨[(6,.aptr [ldF m l r a b d] 0 0)],[],1,113⟩) (fun _=>d=n) ?_ ?_;refine ae_ (as_ (fun k:Nat=>clS m l r a b n k) (fun k=>n- k) (fun k=>k≤d) 0 (Nat.zero_le _) ?_ ?_);rw[clS.eq_1];refine s_x [(1,6)] (fun hs=>au_f) (fun hs=>?_)
 ·repeat' (first|exact aC_|refine h_c ?_ ?_|exact aA_ (iT_ _ hs hWc (gD_ (L:=[1]) hs rfl (a7_ rfl) rfl rfl) (au_ hs cb_) (CvL.clo hs dY_) (au_ hs cb_) (au_ hs cb_))|exact au_e)
 rintro k hk;by_cases hlt:k< d;obtain⟨o1,o2,o3,o4,o5,o6,o7,o8,o9,o10,o11,o12,o13,o14,o15⟩:=hok k hlt;have hmm:=fV_ _ _ o1;have ho1:=qE_ m _ l r a b o2;have hsg:=bP_ (ldN m (ldr m k).1);have hsp:=sgZ_num_gt.2 o3;have hmx:=qV_ _ o4;have ho2:=qE_ m _ l r a b o5;have hov:=iq_ _ (ldN m (ldr m k).1) (by grind) o6;have hng:=eX_ (ldAk m k);have hmp:=fV_ (ldr m k).1 [-ldAk m k,1] o8;have hsc:=cL_ (ldr m k).2.1 (ldB m k) o9 o10 o13;have hsu:=it_ _ _ o11 o12 o14 o15;cases k with
 |zero=>
  have hsc0:FS 22 [.arr [],.agg [.arr [],bln false,.arr []]] (.arr (pE (aw_ (ldr m 0).2.1 (ldB m 0)))):=by
   rw[show qC (ldB m 0)=[.arr [],bln false,.arr []] by rw[show ldB m 0=0 from rfl];exact qC0] at hsc;exact hsc
  rw[clS.eq_1];refine q_z 1 ?_;refine ab_ (cT (ag_ (ab_ (ae_ (r_z 2 ?_)))));refine ab_ (r_d hmix 10 ?_);refine c_s (hmm) ?_;refine a_1 ?_;refine ak_ (n_k ?_);refine r_c 8 (ho1) ?_;refine a_z ?_;refine ab_ (r_c 3 (hsg) ?_);refine d_z ?_;refine cF (ag_ (ab_ (r_d hmix 17 ?_)));refine c_s (bU_ 1 (by decide)) ?_;refine a_1 ?_;refine o_1 (.callS1 rfl rfl rfl (.keep (.shut rfl d_n (.nil))) rfl (hmx)) ?_;refine c_s (ho2) ?_;refine c_s (hov) ?_;refine a_5 ?_;refine ak_ (n_k ?_);refine ab_ (q_z 2 ?_);refine cF (ag_ (r_z 5 ?_));refine ab_ (r_d hmix 22 ?_);refine a_8 ?_;refine a_8 ?_;refine a_6 ?_;refine ak_ (n_k ?_);refine r_d hmix 28 ?_;refine c_s (hng) ?_;refine c_s (bU_ 1 (by decide)) ?_;refine a_1 ?_;refine o_1 (.callS1 rfl rfl rfl (.keep (.shut rfl d_n (.nil))) rfl (hmp)) ?_;refine c_s (hsc0) ?_;refine c_s (hsu) ?_;refine a_8 ?_;refine a_2 ?_;refine ak_ (n_k ?_);refine r_m 2 ?_;refine a_z ?_;refine⟨0+1,by omega,hlt,?_⟩;rw[clS.eq_2];refine s_x [(1,6),(2,73),(3,80)] (fun hs=>au_f) (fun hs=>?_)
  ·repeat' (first|exact aC_|refine h_c ?_ ?_|exact bt_ hs (aF_ [ldAk m 0])|exact aA_ (rM_ hs)|exact aA_ (iT_ _ hs hWc (au_ hs (ap_ _)) (au_ hs (ap_ _)) (CvL.clo hs (aN_ _)) (Cv.sl rfl rfl rfl) (Cv.sl rfl rfl rfl))|exact au_e)
 |succ k=>
  rw[clS.eq_2];have hB:ldB m (k+1)=ldN m (ldr m (k+1)).1/ (ldr m (k+1)).2.2:=if_neg (Nat.succ_ne_zero k);have hpv:0< (ldr m (k+1)).2.2:=(hok k (by omega)).2.2.1;have hov2:=iq_ (ldN m (ldr m (k+1)).1) (ldr m (k+1)).2.2 (by grind) o7;rw[←hB] at hov2;have eA:pE (sqL (ldAk m) (k+1))++[qC (ldAk m (k+1))]=pE (sqL (ldAk m) (k+1+1)):=by rw[he_ _ (k+1),h2_]
  have eB:pE (sqL (ldB m) (k+1))++[qC (ldB m (k+1))]=pE (sqL (ldB m) (k+1+1)):=by rw[he_ _ (k+1),h2_]
  refine q_z 1 ?_;refine ab_ (cT (ag_ (ab_ (ae_ (r_z 2 ?_)))));refine ab_ (r_d hmix 10 ?_);refine c_s (hmm) ?_;refine a_1 ?_;refine ak_ (n_k ?_);refine r_c 8 (ho1) ?_;refine a_z ?_;refine ab_ (r_c 3 (hsg) ?_);refine d_z ?_;refine cF (ag_ (ab_ (r_d hmix 17 ?_)));refine c_s (bU_ 1 (by decide)) ?_;refine a_1 ?_;refine o_1 (.callS1 rfl rfl rfl (.keep (.shut rfl d_n (.nil))) rfl (hmx)) ?_;refine c_s (ho2) ?_;refine c_s (hov) ?_;refine a_5 ?_;refine ak_ (n_k ?_);refine ab_ (q_z 2 ?_);refine cT (r_d hmix 7 ?_);refine c_s (hov2) ?_;refine a_1 ?_;refine ak_ (n_k ?_);refine r_z 5 ?_;refine ab_ (r_d hmix 22 ?_);refine a_8 ?_;refine a_8 ?_;refine a_6 ?_;refine ak_ (n_k ?_);refine r_d hmix 28 ?_;refine c_s (hng) ?_;refine c_s (bU_ 1 (by decide)) ?_;refine a_1 ?_;refine o_1 (.callS1 rfl rfl rfl (.keep (.shut rfl d_n (.nil))) rfl (hmp)) ?_;refine c_s (hsc) ?_;refine c_s (hsu) ?_;refine a_8 ?_;refine a_2 ?_;refine ak_ (n_k ?_);refine r_m 2 ?_;refine a_z ?_;refine⟨k+1+1,by omega,hlt,?_⟩;rw[clS.eq_2];refine s_x [(1,6),(2,73),(3,80)] (fun hs=>au_f) (fun hs=>?_) e_2
  ·repeat' (first|exact aC_|refine h_c ?_ ?_|exact aJ_ hs eA (aF_ _)|exact aJ_ hs eB (aF_ _)|exact aA_ (iT_ _ hs hWc (au_ hs (ap_ _)) (au_ hs (ap_ _)) (CvL.clo hs (aN_ _)) (Cv.sl rfl rfl rfl) (Cv.sl rfl rfl rfl))|exact au_e)
 obtain rfl:k=d:=by omega
 refine AWp.ent (st':=clX m l r a b n k) ?_ ?_;cases k with
 |zero=>
  rw[clS.eq_1];unfold clX;refine s_x [(1,6)] (fun hs=>au_f) (fun hs=>?_)
  ·repeat' (first|exact aC_|refine h_c ?_ ?_|exact aA_ (iT_ _ hs hWc (au_ hs (ap_ _)) (Cv.emp _) (rM_ hs) (Cv.emp _) (Cv.emp _))|exact au_e)
 |succ k=>
  rw[clS.eq_2];unfold clX;refine s_x [(1,6)] (fun hs=>au_f) (fun hs=>?_)
  ·repeat' (first|exact aC_|refine h_c ?_ ?_|exact aA_ (iT_ _ hs hWc (au_ hs (ap_ _)) (au_ hs (ap_ _)) (CvL.clo hs (aN_ _)) (gD_ hs rfl (a7_ rfl) rfl (by simp)) (gD_ hs rfl (a7_ rfl) rfl (by simp)))|exact au_e)
 unfold clX;by_cases hdn:k< n
 ·obtain⟨o1,o2,o3⟩:=hbad hdn
  have hmm:=fV_ _ _ o1;have ho1:=qE_ m _ l r a b o2;have hsg:=bP_ (ldN m (ldr m k).1)
  have hsp:sgZ (ldN m (ldr m k).1).num≤0:=by
   have h1:=sgZ_num_gt (q:=ldN m (ldr m k).1);by_cases e:0< sgZ (ldN m (ldr m k).1).num;exact absurd (h1.1 e) o3;omega
  rw[decide_eq_false (show¬k=n by omega)];refine q_z 1 ?_;refine ab_ (cT (ag_ (ab_ (ae_ (r_z 2 ?_)))));refine ab_ (r_d hmix 10 ?_);refine c_s (hmm) ?_;refine a_1 ?_;refine ak_ (n_k ?_);refine r_c 8 (ho1) ?_;refine a_z ?_;refine ab_ (r_c 3 (hsg) ?_);refine d_z ?_;refine ai_ rfl (fun h=>?_) (fun h=>?_);rotate_left;cases h;refine r_z 3 ?_;refine ad_ (Fin.many ⟨_,_,rfl,rfl,⟨_,_,rfl,rfl,rfl⟩⟩ (nle rfl) ?_);exact ah_ (Cv.boxp av_ rfl (fun _ _ h=>by cases h) rfl (fA_ m l r a b _)) (ah_ (au_ av_ (af_ _)) aq_)
 obtain rfl:k=n:=by omega
 refine q_z 1 ?_;refine ab_ (cF (ar_ ⟨(),rfl,?_⟩));refine s_x [] (fun hs=>?_) (fun hs=>?_)
 ·repeat' (first|exact a9_|refine aV_ rfl ?_ ?_|exact Cv.boxp hs rfl (a7_ rfl) rfl (fA_ m l r a b _)|exact au_c)
 ·repeat' (first|exact aC_|refine h_c ?_ ?_|exact au_e|refine aA_ ?_|exact aq_|refine ah_ ?_ ?_|exact Cv.boxp hs rfl (a7_ rfl) rfl (fA_ m l r a b _)|exact au_c)
 rintro _ hdn;rw[decide_eq_true hdn];refine r_z 3 ?_;refine ad_ (Fin.many ⟨_,_,rfl,rfl,⟨_,_,rfl,rfl,rfl⟩⟩ (nle rfl) ?_);exact CvL.clo av_ (aa_ (d0_ fun e he=>by rw[List.mem_singleton.1 he];exact fA_ m l r a b d) (aa_ (af_ _) ac_))
theorem fs_climb(m:List Rat)(l r:Bool)(a b:Rat)(n:Nat)(hn:n≤1000)(hok:∀k,k< n→okLd m k):
    FS 209 [.agg (wC m l r (qC a) (qC b)),i64 n] (.tup [.aptr [ldF m l r a b n] 0 0,bln true]):=by
 have h:=qJ_ m l r a b n n hn (Nat.le_refl n) hok fun h=>absurd h (Nat.lt_irrefl n);rw[decide_eq_true rfl] at h;exact h
theorem qD_(n lo hi:Int)(h:lo≤n∧n≤hi):FS 207 [i64 n,i64 lo,i64 hi] (i64 0):=by
 have ho:=eo_ n lo hi;rw[decide_eq_false (by omega)] at ho;refine f_c Tryz.func207 ?_;refine r_z 1 ?_;refine ab_ (r_c 4 (ho) ?_);refine ak_ ?_;refine cF (ag_ (r_z 1 ?_));exact ad_ (t_e (af_ _))
theorem fs_named (m:List Rat) (l r:Bool) (a b:Rat) (mo:Nat) (g:Nat) (cap:List AV) (p wt:List Rat) (hcap:∀c∈cap,Closed c) (hm:1≤m.length∧m.length≤64) (hab:l=true→r=true→a< b) (ha:sm a) (hb:sm b)
    (hmo:mo≤m.length) (hg:FS g (cap.map coe) (.tup [.arr (pE p),bln true])) (hr:FS 200 [.arr (pE p)] (bln true)) (hpb:bdL p 68719476736) (hp0:trimQ p≠[]) (hpl:p.length≤1099511627776)
    (hon:FS 201 [.agg (wC m l r (qC a) (qC b)),.arr (pE (a4_ p))] (.agg (ruC (a4_ p) wt))):
    FS 206 [.agg (wC m l r (qC a) (qC b)),i64 0,i64 mo,.clos g [] cap] (.tup [.agg (ruC (a4_ p) wt),i64 0]):=by
 have hWc:∀c∈wC m l r (qC a) (qC b),Closed c:=dd_ (.inr ⟨a,rfl⟩) (.inr ⟨b,rfl⟩);have hcw:=jf_ m l r a b hm hab ha hb;have hmn:=oD_ p hpb hp0 hpl;refine f_n Tryz.func206 ?_ ?_;exact aa_ (aB_ hWc) (aa_ (af_ _) (aa_ (af_ _) (aa_ (aG_ ac_ hcap) ac_)));refine r_z 3 ?_;refine ab_ (r_c 3 (hcw) ?_);refine a_z ?_;refine s_r 2 ?_;refine a_1 ?_;refine o_0 (.bin rfl rfl (vF b4_ (rfl))) ?_;refine ak_ ?_;refine cF (ag_ (ab_ (ae_ (s_r 3 ?_))));refine a_1 ?_;refine o_0 (.bin rfl rfl (vF b4_ (rfl))) ?_;refine a_z ?_;refine cF (q_z 6 ?_);refine cF (ag_ (r_c 7 (hg) ?_));refine a_z ?_;refine ab_ (r_c 7 (hr) ?_);refine a_z ?_;refine cF (ag_ (ab_ (r_d hmix 6 ?_)));refine c_s (hmn) ?_;refine c_s (hon) ?_;refine a_2 ?_;refine ak_ (n_k ?_);refine ad_ (Fin.many ⟨_,_,rfl,⟨_,_,_,_,_,rfl,rfl,rfl,.inl ⟨TG.h,_,TS.h,nle rfl,rfl⟩⟩,⟨_,_,rfl,rfl,rfl⟩⟩ (nle rfl) ?_);exact ah_ (au_ av_ (aB_ (cV_ _ _))) (ah_ (au_ av_ (af_ _)) aq_)
def bW(m:List Rat)(l r:Bool)(a b:Rat):AV:= .aptr [wC m l r (qC a) (qC b)] 0 0
theorem lU_(m:List Rat)(l r:Bool)(a b:Rat):Closed (bW m l r a b):=bg_ (dd_ (.inr ⟨a,rfl⟩) (.inr ⟨b,rfl⟩))
def bIn(n:Int):AV:= .aptr [[i64 n]] 0 0
theorem jP_(n:Int):Closed (bIn n):=bg_ (aa_ (af_ _) ac_)
theorem qY_(m:List Rat)(l r:Bool)(a b:Rat)(n:Nat)(hn:n≤1000)(hok:∀k,k< n→okLd m k):FS 208 [bW m l r a b,bIn n] (.tup [.arr (pE (ldr m n).1),bln true]):=by
 have hcl:=fs_climb m l r a b n hn hok;refine f_n Tryz.func208 ?_ ?_;exact aa_ (lU_ m l r a b) (aa_ (jP_ n) ac_);refine r_z 2 ?_;refine r_c 8 (hcl) ?_;refine a_z ?_;refine r_z 7 ?_;refine ad_ (Fin.many ⟨_,_,rfl,rfl,⟨_,_,rfl,rfl,rfl⟩⟩ (nle rfl) ?_);exact ah_ (au_ av_ (ap_ _)) (ah_ (au_ av_ (af_ _)) aq_)
theorem fs_Gauss (m:List Rat) (l r:Bool) (a b:Rat) (n:Nat) (wt:List Rat) (hn:1≤n∧n≤25) (hok:∀k,k< n→okLd m k) (hm:2* n≤m.length∧m.length≤64) (hab:l=true→r=true→a< b) (ha:sm a) (hb:sm b)
    (hr:FS 200 [.arr (pE (ldr m n).1)] (bln true)) (hpb:bdL (ldr m n).1 68719476736) (hp0:trimQ (ldr m n).1≠[]) (hpl:(ldr m n).1.length≤1099511627776)
    (hon:FS 201 [.agg (wC m l r (qC a) (qC b)),.arr (pE (a4_ (ldr m n).1))] (.agg (ruC (a4_ (ldr m n).1) wt))):
    FS 86 [.agg (wC m l r (qC a) (qC b)),i64 n] (.tup [.agg (ruC (a4_ (ldr m n).1) wt),i64 0]):=by
 have hWc:∀c∈wC m l r (qC a) (qC b),Closed c:=dd_ (.inr ⟨a,rfl⟩) (.inr ⟨b,rfl⟩);have hra:=qD_ (n:Nat) 1 25 (by omega);have hcc:∀c∈[bW m l r a b,bIn n],Closed c:=aa_ (lU_ m l r a b) (aa_ (jP_ n) ac_);have hna:=fs_named m l r a b (2* n) 208 [bW m l r a b,bIn n] (ldr m n).1 wt hcc (by omega) hab ha hb hm.1 (qY_ m l r a b n (by omega) hok) hr hpb hp0 hpl hon;refine f_c Tryz.func86 ?_;refine r_z 4 ?_;refine AWp.ent (st':=⟨[(2,bW m l r a b),(3,bIn n),(4,.lptr 1 0 0)],[(1,some ⟨164,2,[[.emp,.emp]]⟩)],2,15⟩) ?_ ?_;refine s_x [(1,4)] (fun hs=>?_) (fun hs=>?_)
 ·repeat' (first|exact a9_|refine aV_ rfl ?_ ?_|exact Cv.boxp hs rfl (a7_ rfl) rfl hWc|exact Cv.boxp hs rfl (a7_ rfl) rfl (aa_ (af_ _) ac_)|exact au_c)
 ·repeat' (first|exact aC_|refine h_c ?_ ?_|exact au_e|refine aA_ ?_|exact aq_|refine ah_ ?_ ?_|exact Cv.boxp hs rfl (a7_ rfl) rfl hWc|exact Cv.boxp hs rfl (a7_ rfl) rfl (aa_ (af_ _) ac_)|exact au_c)
 refine ab_ (r_d hmix 11 ?_);refine c_s (hra) ?_;refine c_s (hna) ?_;refine a_4 ?_;refine ak_ (n_k ?_);refine ad_ (Fin.many ⟨_,_,rfl,⟨_,_,_,_,_,rfl,rfl,rfl,.inl ⟨TG.h,_,TS.h,nle rfl,rfl⟩⟩,⟨_,_,rfl,rfl,rfl⟩⟩ (nle rfl) ?_);exact ah_ (au_ av_ (aB_ (cV_ _ _))) (ah_ (au_ av_ (af_ _)) aq_)
theorem fu_(p q:List Rat)(o:okDiv p q)(h0:trimQ q≠[]):FS 313 [.arr (pE p),.arr (pE q)] (.tup [.arr (pE (divP p q).1),.arr (pE (divP p q).2)]):=
 fb_ p q (mxL p) (mxL q) (bB_ p) (bB_ q) (br_ p) (br_ q) o.1 h0 o.2.1 o.2.2
def bzS(p:List Rat)(q:List Rat):List Rat×List Rat×List Rat×List Rat→AState
 |(g,nx,a,c)=>⟨[(0,.arr (pE p)),(1,.arr (pE q)),(4,.arr (pE g)),(5,.arr (pE a)),(7,.arr (pE nx)),(8,.arr (pE c))],[],1,83⟩
theorem q3_(f:Nat)(p q g a:List Rat)(hq:trimQ q≠[])(hql:q.length≤1099511627776)(hz:bzL f p q (a0_ ((1:Int):Rat)) []=some (g,a))(ho:okBz p q g a):
    FS 286 [.arr (pE p),.arr (pE q)] (.tup [.arr (pE (bzG g)),.arr (pE (bzA q g a)),.arr (pE (bzB p q g a))]):=by
 obtain⟨c1,c2,c3,c4,c5,c6,c7,c8,c9,c10,c11,c12,c13,c14,c15,c16⟩:=ho;have hd:¬degP q< 0:=fun e=>hq (degP_neg.1 e);have q1:qs ((1:Int):Rat)=1:=by decide
 have hqd:=d6_ ((1:Int):Rat) (leadP g);have hsl:sm (((1:Int):Rat) / leadP g):=by unfold sm;omega
 refine f_c Tryz.func286 ?_;refine r_z 3 ?_;refine ab_ (r_c 3 (bc_ q hql) ?_);refine d_z ?_;refine cF (ag_ (r_z 4 ?_));refine r_c 4 (cq_ 1 (by decide)) ?_;refine c_s (eO_ ((1:Int):Rat)) ?_;refine a_z ?_;refine ab_ (ay_ (fun _:Unit=>⟨[(0,.arr (pE p)),(1,.arr (pE q)),(4,.arr (pE g)),(5,.arr (pE a))],[],1,83⟩) (fun _=>True) ?_ ?_);refine ae_ (as_ (fun x:Nat×List Rat×List Rat×List Rat×List Rat=>bzS p q x.2) (fun x=>x.1) (fun x=>bzL x.1 x.2.1 x.2.2.1 x.2.2.2.1 x.2.2.2.2=some (g,a)∧x.2.2.1.length≤1099511627776) (f,p,q,a0_ ((1:Int):Rat),[]) ⟨hz,hql⟩ ?_ ?_);simp only[bzS.eq_1];exact s_e [];rintro⟨f,g',nx,a',c⟩ ⟨hz,hnl⟩;simp only at hz hnl;simp only[bzS.eq_1];cases f with
 |zero=>cases hz
 |succ f=>
  rw[bzL] at hz;by_cases hn0:trimQ nx=[];rw[if_pos hn0] at hz;cases hz;refine ab_ (r_c 3 (bc_ nx hnl) ?_);refine o_0 (.bin rfl rfl (vF dr_ (decide_eq_false (by have:=degP_neg.2 hn0;omega)))) ?_;refine ak_ ?_;refine cF (ar_ ⟨(),trivial,?_⟩);exact s_e []
  ·rw[if_neg hn0] at hz
   split at hz
   case isFalse=>cases hz
   case isTrue hs=>
   obtain⟨⟨o1,o2,o3,o4,o5,o6⟩,o7⟩:=hs;have hrl:=(gv_ (p:=g') (q:=nx));have hgl:=o1.2.1;have hdn:¬degP nx< 0:=fun e=>hn0 (degP_neg.1 e);refine ab_ (r_c 3 (bc_ nx hnl) ?_);refine d_z ?_;refine cT (ag_ (ae_ (r_c 8 (fu_ g' nx o1 hn0) ?_)));refine a_z ?_;refine r_z 4 ?_;refine r_m 8 ?_;refine c_s (fV_ _ c o2) ?_;refine c_s (it_ a' _ o3 o4 o5 o6) ?_;refine a_z ?_;refine⟨(f,nx,(divP g' nx).2,c,subP a' (mulP (divP g' nx).1 c)),Nat.lt_succ_self f,⟨hz,by simp only;omega⟩,?_⟩;simp only[bzS.eq_1];exact s_e []
 rintro _ _;refine r_c 6 (cq_ 1 (by decide)) ?_;refine c_s (fW_ g c2) ?_;refine o_0 (.call rfl rfl rfl (dp_ _ (leadP g) (bj_ c1) (by omega))) ?_;refine o_1 (.alloc TZ.h) ?_;refine o_1n (.store rfl rfl rfl rfl rfl rfl TS.h (nle rfl)) ?_;refine ak_ ?_;refine ab_ (r_d hmix 8 ?_);refine c_s (cL_ g _ c4 hsl c2) ?_;refine c_s (cL_ a _ c5 hsl c3) ?_;refine a_2 ?_;refine ak_ (n_k ?_);refine r_c 8 (fu_ q (bzG g) c7 c8) ?_;refine a_z ?_;refine r_c 7 (fu_ _ _ c9 c10) ?_;refine a_z ?_;refine r_c 11 (fV_ (bzA q g a) p c11) ?_;refine c_s (it_ (bzG g) _ c12 c13 c14 c15) ?_;refine c_s (fu_ _ q c16 hq) ?_;refine a_z ?_;refine r_z 6 ?_;refine ad_ (Fin.many ⟨_,_,rfl,rfl,⟨_,_,rfl,rfl,⟨_,_,rfl,rfl,rfl⟩⟩⟩ (nle rfl) ?_);exact CvL.clo av_ (aa_ (ap_ _) (aa_ (ap_ _) (aa_ (ap_ _) ac_)))
theorem setT{p m:List Rat}{d j i e:Nat}(hi:i< j)(hj:j≤d)(he:e=i):(pE (tabP d (tpI p m j i))).set e (qC (tpI p m j i i+coP p j* coP m (j- 1- i)))=pE (tabP d (tpI p m j (i+1))):=by
 subst he;rw[js_,←tpI_set p m d j e hi hj];congr 3;unfold tpI;rw[if_neg (by omega)]
theorem iU_{r:Ren}{hp hp':Nat→Option ABlk}(h:Shr r hp hp'):∀n,CvLL r hp hp' (List.replicate n zC) (pE (List.replicate n 0))
 |0=>bt_ h (aF_ [])
 |n+1=>CvLL.cons (ys:=pE (List.replicate n 0)) (rM_ h) (iU_ h n)
theorem getT{d i e:Nat}{f:Nat→Rat}(h:i< d)(he:e=i):(pE (tabP d f))[e]?=some (qC (f i)):=by
 subst he;exact bG_ (jX_ f h)
def onS(p:List Rat)(m:List Rat)(W:List AV)(d:Nat):Nat→AState
 |j=>⟨[(1,.arr (pE p)),(2,.lptr 1 0 0),(4,.lptr 2 0 0),(5,.lsl 3 0 d (some d) 3),(15,.arr (pE p)),(16,i64 ((d+1:Nat):Int)),(17,i64 j)],[(1,some ⟨160,9,[W]⟩),(2,some ⟨164,2,[[.emp,.emp]]⟩),(3,some ⟨39,3,pE (tabP d fun i=>tpV p m i j)⟩)],4,61⟩
def onI(p:List Rat)(m:List Rat)(W:List AV)(d:Nat)(j:Nat):Nat→AState
 |i=>⟨[(1,.arr (pE p)),(2,.lptr 1 0 0),(4,.lptr 2 0 0),(5,.lsl 3 0 d (some d) 3),(15,.arr (pE p)),(16,i64 ((d+1:Nat):Int)),(17,i64 j),(6,i64 j),(7,.lptr 4 0 0),(22,i64 j),(23,i64 i)],[(1,some ⟨160,9,[W]⟩),(2,some ⟨164,2,[[.emp,.emp]]⟩),(3,some ⟨39,3,pE (tabP d (tpI p m j i))⟩),(4,some ⟨39,3,[qC (coP p j)]⟩)],5,61⟩
theorem fs_on (p m:List Rat) (l r:Bool) (a b:Rat) (d s t:Nat) (g iv bz:List Rat) (hl:p.length=d+1) (htr:trimQ p=p) (hd:d≤1000) (hp:bdL p s) (hm:bdL m t) (hs:1≤s) (ht:1≤t) (hml:d≤m.length) (hlim:(d+2) * (s+t+1)≤137438953472)
    (hde:FS 29 [.arr (pE p)] (.arr (pE (ao_ p)))) (hbz:FS 286 [.arr (pE (ao_ p)),.arr (pE p)] (.tup [.arr (pE g),.arr (pE iv),.arr (pE bz)]))
    (hmu:okMul (tpQ p m) iv) (hdi:okDiv (mulP (tpQ p m) iv) p):
    FS 201 [.agg (wC m l r (qC a) (qC b)),.arr (pE p)] (.agg (ruC p (divP (mulP (tpQ p m) iv) p).2)):=by
 have hWc:∀c∈wC m l r (qC a) (qC b),Closed c:=dd_ (.inr ⟨a,rfl⟩) (.inr ⟨b,rfl⟩);have hp0:trimQ p≠[]:=by rw[htr];intro e;rw[e] at hl;simp at hl
 have hdg:=bc_ p (by omega);rw[show degP p=(d:Int) by unfold degP;rw[htr,hl];omega] at hdg;have etp:tabP d (fun i=>tpV p m i (d+1))=tpQ p m:=by unfold tpQ;rw[hl];rfl
 refine f_c Tryz.func201 ?_;refine r_z 2 ?_;refine r_c 4 (hdg) ?_;refine a_z ?_;refine ab_ (r_z 3 ?_);refine ay_ (fun _:Unit=>⟨[(1,.arr (pE p)),(4,.lptr 1 0 0),(5,.arr (pE (tpQ p m)))],[(1,some ⟨164,2,[[.emp,.emp]]⟩)],2,61⟩) (fun _=>True) ?_ ?_;refine ae_ (as_ (onS p m (wC m l r (qC a) (qC b)) d) (fun j=>d+1- j) (fun j=>j≤d+1) 0 (Nat.zero_le _) ?_ ?_);rw[onS.eq_1,pg_];refine s_x [(1,2),(2,4),(3,5)] (fun hs=>au_f) (fun hs=>?_)
 ·repeat' (first|exact aC_|refine h_c ?_ ?_|exact aA_ (CvL.clo hs hWc)|exact iU_ hs d|exact au_e)
 intro j hj;rw[onS.eq_1];by_cases hlt:j< d+1;have hgt:(pE p)[((j:Nat):Int).toNat]?=some (qC (coP p j)):=bG_ (bd_ (by omega));refine q_z 1 ?_;refine ab_ (cT (ag_ (ab_ (ae_ (s_r 6 ?_)))));refine a_1 ?_;refine i_x hgt ?_;refine l_x hgt ?_;refine a_z ?_;refine r_z 2 ?_;refine AWp.cutB (fun _:Unit=>onI p m (wC m l r (qC a) (qC b)) d j j) (fun _=>True) ?_ ?_;refine ae_ (as_ (onI p m (wC m l r (qC a) (qC b)) d j) (fun i=>j- i) (fun i=>i≤j) 0 (Nat.zero_le _) ?_ ?_);rw[onI.eq_1,tpI_0];exact s_x [(4,7)] (fun hs=>au_f) (fun hs=>e_13);intro i hi;rw[onI.eq_1];by_cases hlt2:i< j;have hv:tpI p m j i i=tpV p m i j:=by unfold tpI;rw[if_neg (by omega)]
 have hq:=tpV_bd hp hm hs ht i j;have hc:=bL_ hp hs j;have hc2:=bL_ hm ht (j- 1- i);have hqm:=bK_ (coP p j) (coP m (j- 1- i));have e1:j* (s+t+1)≤(d+1) * (s+t+1):=Nat.mul_le_mul_right _ (by omega);have e2:(d+2) * (s+t+1)=(d+1) * (s+t+1)+(s+t+1):=Nat.succ_mul _ _;have hmul:=bO_ (coP p j) (coP m (j- 1- i)) (by omega);have hadd:=c4_ (tpI p m j i i) (coP p j* coP m (j- 1- i)) (by rw[hv];omega)
 have hgm:(pE m)[((j- 1- i:Int)).toNat]?=some (qC (coP m (j- 1- i))):=by
  rw[show((j:Int)- 1- i).toNat=j- 1- i by omega];exact bG_ (bd_ (by omega))
 refine q_z 1 ?_;refine ab_ (cT (ag_ (ab_ (ae_ (r_z 2 ?_)))));refine r_d hmix 19 ?_;refine a_5 ?_
 first|refine aK_ (.load_l rfl rfl (getT (i:=i) (d:=d) (f:=tpI p m j i) (by omega) (by omega)) TG.h TS.h (nle rfl)) rfl rfl ?_|refine aK_ (.load_a rfl (getT (i:=i) (d:=d) (f:=tpI p m j i) (by omega) (by omega)) TG.h TS.h (nle rfl)) rfl rfl ?_
 refine a_7 ?_;refine i_x hgm ?_;refine l_x hgm ?_;refine c_s (hmul) ?_;refine c_s (hadd) ?_;refine a_1 ?_;refine o_1n (.store rfl rfl (getT (i:=i) (d:=d) (f:=tpI p m j i) (by omega) (by omega)) rfl rfl rfl TS.h (nle rfl)) ?_;refine ak_ (n_k ?_);refine r_m 2 ?_;refine a_z ?_;refine⟨i+1,by omega,hlt2,?_⟩;rw[onI.eq_1];refine s_x [] (fun hs=>au_f) (fun hs=>?_)
 ·repeat' (first|exact aC_|refine h_c ?_ ?_|exact aA_ (CvL.clo hs hWc)|exact bt_ hs (aF_ [coP p j])|exact aJ_ hs (setT hlt2 (by omega) (Nat.zero_add i)) (aF_ _)|exact au_e)
 have hge:i=j:=by omega
 subst hge;refine q_z 1 ?_;refine ab_ (cF (ar_ ⟨(),trivial,?_⟩))
 try simp only[onI.eq_1]
 exact s_x [] (fun hs=>au_f) (fun hs=>e_13);rintro _ _;rw[onI.eq_1,tpI_e];refine r_m 2 ?_;refine a_z ?_;refine⟨j+1,by omega,hlt,?_⟩;rw[onS.eq_1];exact s_x [] (fun hs=>au_f) (fun hs=>e_13);have hge:j=d+1:=by omega
 subst hge;refine q_z 1 ?_;refine ab_ (cF (ar_ ⟨(),trivial,?_⟩));rw[etp];refine s_x [(1,4)] (fun hs=>?_) (fun hs=>?_)
 ·repeat' (first|exact a9_|refine aV_ rfl ?_ ?_|exact gD_ hs rfl (a7_ rfl) rfl (by rw[←etp];simp)|exact au_c)
 ·repeat' (first|exact aC_|refine h_c ?_ ?_|exact au_e|refine aA_ ?_|exact aq_|refine ah_ ?_ ?_|exact gD_ hs rfl (a7_ rfl) rfl (by rw[←etp];simp)|exact au_c)
 rintro _ _;refine r_c 11 (hde) ?_;refine c_s (hbz) ?_;refine a_z ?_;refine r_c 8 (fV_ _ iv hmu) ?_;refine c_s (mv_ _ p hdi hp0) ?_;refine a_z ?_;exact ad_ (c_e (aB_ (cV_ _ _)))

def apS(t:List Rat)(s:List Rat)(W:List AV):Nat×Rat→AState
 |(i,o)=>⟨[(2,.lptr 1 0 0),(4,.lptr 2 0 0),(5,.lptr 3 0 0),(6,.arr (pE s)),(20,.arr (pE t)),(21,i64 t.length),(22,i64 i)],[(1,some ⟨164,2,[W]⟩),(2,some ⟨39,3,[zC]⟩),(3,some ⟨39,3,[qC o]⟩)],4,37⟩
theorem fs_apply (p w f m:List Rat) (s t:Nat) (hsu:FS 289 [.agg (ruC p w)] (.arr (pE m))) (h0:trimQ p≠[]) (o1:okDiv f p) (o2:okMul w (divP f p).2) (o3:okDiv (mulP w (divP f p).2) p)
    (hp:bdL (apR p w f) s) (hm:bdL m t) (hs:1≤s) (ht:1≤t) (hpl:(apR p w f).length≤1000000) (hlen:(apR p w f).length≤m.length) (hlim:((apR p w f).length+2) * (s+t+1)≤137438953472):
    FS 204 [.agg (ruC p w),.arr (pE f)] (.agg (qC (ofQ (apR p w f) m (apR p w f).length))):=by
 have hre1:=mv_ f p o1 h0;have hmu:=fV_ w _ o2;have hre2:=mv_ _ p o3 h0;obtain⟨T,hT⟩:∃T,T=apR p w f:=⟨_,rfl⟩;rw[show(divP (mulP w (divP f p).2) p).2=T from hT.symm] at hre2;rw[←hT] at hp hpl hlen hlim⊢;have hWc:=cV_ p w;refine f_c Tryz.func204 ?_;refine r_z 2 ?_;refine r_z 1 ?_;refine r_c 3 (hsu) ?_;refine a_z ?_;refine ab_ (ab_ (r_d hmix 12 ?_));refine c_s (hre1) ?_;refine c_s (hmu) ?_;refine c_s (hre2) ?_;refine a_2 ?_;refine ak_ (n_k ?_);refine ay_ (fun _:Unit=>⟨[(4,.lptr 1 0 0),(5,.lptr 2 0 0)],[(1,some ⟨39,3,[zC]⟩),(2,some ⟨39,3,[qC (ofQ T m T.length)]⟩)],3,37⟩) (fun _=>True) ?_ ?_;refine ae_ (as_ (apS T m (ruC p w)) (fun x=>T.length- x.1) (fun x=>x.1≤T.length∧x.2=ofQ T m x.1) (0,0) ⟨Nat.zero_le _,rfl⟩ ?_ ?_);simp only[apS.eq_1];rw[qC0];exact s_f [(1,2),(2,4),(3,5)];rintro⟨i,o⟩ ⟨hi,ho⟩;simp only at hi ho;rw[apS.eq_1];by_cases hlt:i< T.length;refine q_z 1 ?_;refine ab_ (cT (ag_ ?_));have hgt:(pE T)[((i:Nat):Int).toNat]?=some (qC (coP T i)):=bG_ (bd_ hlt);have hgm:(pE m)[((i:Nat):Int).toNat]?=some (qC (coP m i)):=bG_ (bd_ (by omega));have hc:=bL_ hp hs i;have hd:=bL_ hm ht i;have hq:=pY_ hp hm hs ht i;rw[←ho] at hq;have e1:i* (s+t+1)≤(T.length+1) * (s+t+1):=Nat.mul_le_mul_right _ (by omega);have e2:(T.length+2) * (s+t+1)=(T.length+1) * (s+t+1)+(s+t+1):=Nat.succ_mul _ _;have hmu:=bO_ (coP T i) (coP m i) (by omega);have hqm:=bK_ (coP T i) (coP m i);have had:=c4_ o (coP T i* coP m i) (by omega);refine ab_ (ae_ (s_r 6 ?_));refine a_1 ?_;refine i_x hgt ?_;refine l_x hgt ?_
 refine a_z ?_;refine r_d hmix 9 ?_;refine a_4 ?_;refine i_x hgm ?_;refine l_x hgm ?_;refine c_s (hmu) ?_;refine c_s (had) ?_;refine a_1 ?_;refine ak_ (n_k ?_);refine r_m 2 ?_;refine a_z ?_;refine⟨(i+1,o+coP T i* coP m i),by simp only;omega,⟨hlt,by simp only;rw[ofQ,←ho]⟩,?_⟩;simp only[apS.eq_1];exact s_f [];have hge:i=T.length:=by omega
 subst hge;refine q_z 1 ?_;refine ab_ (cF (ar_ ⟨(),trivial,?_⟩));rw[ho];exact s_e [(1,4),(2,5)];rintro _ _;refine r_z 2 ?_;exact ad_ (c_e (az_ _))
theorem fs_Apply(p w f:List Rat)(v:Rat)(hck:FS 210 [.agg (ruC p w)] (i64 0))(hap:FS 204 [.agg (ruC p w),.arr (pE f)] (.agg (qC v))):
    FS 87 [.agg (ruC p w),.arr (pE f)] (.tup [.agg (qC v),i64 0]):=by
 have hWc:=cV_ p w;refine f_c Tryz.func87 ?_;refine r_z 3 ?_;refine ab_ (r_c 3 (hck) ?_);refine a_z ?_;refine s_r 2 ?_;refine a_1 ?_;refine o_0 (.bin rfl rfl (vF b4_ (rfl))) ?_;refine ak_ ?_;refine cF (ag_ (r_c 5 (hap) ?_));refine a_z ?_;refine ad_ (Fin.many ⟨_,_,rfl,⟨_,_,_,_,_,rfl,rfl,rfl,.inl ⟨TG.h,_,TS.h,nle rfl,rfl⟩⟩,⟨_,_,rfl,rfl,rfl⟩⟩ (nle rfl) ?_);exact ah_ (au_ av_ (az_ _)) (ah_ (au_ av_ (af_ _)) aq_)
def smsS(T:List Rat)(n:Nat):Nat→AState
 |k=>⟨[(3,.arr (pE T)),(4,i64 n),(5,.lsl 1 0 (k+1) none 3),(6,i64 ((k+1:Nat):Int))],[(1,some ⟨39,3,pE (suL T n k)⟩)],2,57⟩
def smsI(T:List Rat)(n:Nat)(k:Nat):Nat→AState
 |i=>⟨[(3,.arr (pE T)),(4,i64 n),(5,.lsl 1 0 (k+1) none 3),(6,i64 ((k+1:Nat):Int)),(7,.lptr 2 0 0),(8,i64 ((i+1:Nat):Int))],[(1,some ⟨39,3,pE (suL T n k)⟩),(2,some ⟨39,3,[qC (nwA T n (suL T n k) (k+1) i)]⟩)],3,57⟩
theorem fs_sums(p w:List Rat)(n:Nat)(hl:(trimQ p).length=n+1)(hn:1≤n)(hn2:n≤1000)(hpl:p.length≤1099511627776)(hok:∀k,k< n- 1→okSu (trimQ p) n k):
    FS 289 [.agg (ruC p w)] (.arr (pE (suL (trimQ p) n (n- 1)))):=by
 have htr:=b6_ p (by omega);have hdg:=bc_ (trimQ p) (by omega);rw[show degP (trimQ p)=(n:Int) by rw[rl_];unfold degP;rw[hl];omega] at hdg;have hW:=cV_ p w;have hw0:=bU_ (n:Int) (by omega);generalize trimQ p=T at *
 refine f_c Tryz.func289 ?_;refine r_z 2 ?_;refine r_c 4 (htr) ?_;refine a_z ?_;refine r_c 3 (hdg) ?_;refine a_z ?_;refine r_c 4 (hw0) ?_;refine a_z ?_;refine ab_ (r_z 1 ?_);refine ay_ (smsS T n) (fun k=>k=n- 1) ?_ ?_;refine ae_ (as_ (smsS T n) (fun k=>n- k) (fun k=>k≤n- 1) 0 (Nat.zero_le _) ?_ ?_);rw[smsS.eq_1];have:=(aF_ [((n:Int):Rat)]);exact s_f [(1,5)];intro k hk;rw[smsS.eq_1];have hsl:=ej_ T n k;by_cases hlt:k< n- 1;obtain⟨o1,o2⟩:=hok k hlt
 have hgt:(pE T)[((n:Int)- ((k+1:Nat):Int)).toNat]?=some (qC (coP T (n- (k+1)))):=by
  rw[show((n:Int)- ((k+1:Nat):Int)).toNat=n- (k+1) by omega];exact bG_ (bd_ (by omega))
 have hm1:=bO_ (coP T (n- (k+1))) (((k+1:Nat):Int):Rat) o1;refine ab_ (q_z 3 ?_);refine cT (ag_ (ab_ (ae_ (ab_ (r_d hmix 11 ?_)))));refine a_4 ?_;refine i_x hgt ?_;refine l_x hgt ?_;refine c_s (bU_ ((k+1:Nat):Int) (by omega)) ?_;refine c_s (hm1) ?_;refine a_2 ?_;refine ak_ (n_k ?_);refine ab_ (r_z 1 ?_);refine ay_ (fun _:Unit=>smsI T n k k) (fun _=>True) ?_ ?_;refine ae_ (as_ (smsI T n k) (fun i=>k- i) (fun i=>i≤k) 0 (Nat.zero_le _) ?_ ?_);rw[smsI.eq_1];exact s_x [(2,7)] (fun hs=>au_f) (fun hs=>e_14);intro i hi;rw[smsI.eq_1];by_cases hlt2:i< k;obtain⟨o3,o4⟩:=o2 i hlt2
 have hg1:(pE T)[((n:Int)- ((i+1:Nat):Int)).toNat]?=some (qC (coP T (n- (i+1)))):=by
  rw[show((n:Int)- ((i+1:Nat):Int)).toNat=n- (i+1) by omega];exact bG_ (bd_ (by omega))
 have hg2:∀e,e=k+1- (i+1)→(pE (suL T n k))[e]?=some (qC (coP (suL T n k) (k+1- (i+1)))):=fun e he=>by
  rw[he];exact bG_ (bd_ (by omega))
 refine ab_ (q_z 3 ?_);refine cT (ag_ (ab_ (ae_ (r_d hmix 16 ?_))));refine a_5 ?_;refine i_x hg1 ?_;refine l_x hg1 ?_;refine a_5 ?_
 first|refine aK_ (.load_l rfl rfl (hg2 _ (by omega)) TG.h TS.h (nle rfl)) rfl rfl ?_|refine aK_ (.load_a rfl (hg2 _ (by omega)) TG.h TS.h (nle rfl)) rfl rfl ?_
 refine c_s (bO_ _ _ o3) ?_;refine c_s (c4_ _ _ o4) ?_;refine a_1 ?_;refine ak_ (n_k ?_);refine r_m 3 ?_;refine a_z ?_;refine⟨i+1,by omega,hlt2,?_⟩;rw[smsI.eq_1];exact s_x [] (fun hs=>au_f) (fun hs=>e_14);have hge:i=k:=by omega
 subst hge;refine ab_ (q_z 3 ?_);refine cF (ar_ ⟨(),trivial,?_⟩)
 try simp only[smsI.eq_1]
 exact s_x [] (fun hs=>au_f) (fun hs=>e_14);rintro _ _
 try simp only[smsI.eq_1]
 refine r_m 6 ?_;refine c_s (eX_ _) ?_;refine a_z ?_;refine r_m 3 ?_;refine a_z ?_;refine⟨k+1,by omega,by omega,?_⟩;rw[smsS.eq_1];have e:pE (suL T n k)++[qC (-(nwA T n (suL T n k) (k+1) k))]=pE (suL T n (k+1)):=by rw[suL,h2_]
 refine s_x [(1,5)] (fun hs=>au_f) (fun hs=>?_) ?_
 ·repeat' (first|exact aC_|refine h_c ?_ ?_|exact aJ_ hs e (aF_ _)|exact au_e)
 ·repeat' (first|exact ShrL.nil|refine ShrL.cons rfl rfl rfl rfl (by first|(simp[ej_])|rfl|(simp;done)|(simp <;> omega)) ?_)
 have hge:k=n- 1:=by omega
 refine ab_ (q_z 3 ?_);refine cF (ar_ ⟨k,hge,?_⟩)
 try simp only[smsS.eq_1]
 exact s_f [];rintro k hk;subst hk;have hsl:=ej_ T n (n- 1);rw[smsS.eq_1];refine r_z 2 ?_;exact ad_ (Fin.tmpS rfl rfl rfl (by rw[k8_,hsl]) (aF_ _))





section
variable {a b:Rat}(h:a< b){k:Nat}(hk:1≤k∧k≤4)(ha:qs a≤20)(hb:qs b≤20)
include h hk ha hb
end
section
variable {a b a' b':Rat}(h:a< b)(h':a'< b'){k:Nat}(hk:1≤k∧k≤4)(ha:qs a≤20)(hb:qs b≤20)(ha':qs a'≤20)(hb':qs b'≤20)
include h h' hk ha hb ha' hb'
end
end Go.Proofs.YtjjllafelolfoaaGreatDoor
