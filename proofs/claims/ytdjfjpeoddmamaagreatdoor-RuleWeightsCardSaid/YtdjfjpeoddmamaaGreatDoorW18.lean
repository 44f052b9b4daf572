/- Part W18 of the proof. -/
import Derived.Test.YtdjfjpeoddmamaaGreatDoorW17
import Derived.Shelf.Strconv.Itoa3
import Derived.Shelf.Strings.Repeat
set_option linter.all false
namespace Go.Proofs.YtdjfjpeoddmamaaGreatDoor
open Go.Abs
set_option maxRecDepth 20000
theorem hS_(n lo hi:Int)(h:lo≤n∧n≤hi):FSpec Tryz.prog 85 [i64 n,i64 lo,i64 hi] (i64 0):=by
 have ho:=bo_ n lo hi
 rw[decide_eq_false (by omega)] at ho
 refine f_n Tryz.func85 ?_ ?_
 exact aa_ (ad_ _) (aa_ (ad_ _) (aa_ (ad_ _) ab_))
 refine r_z 1 ?_
 refine ac_ (r_c 4 (ho) ?_)
 refine an_ ?_
 refine cF (ag_ (r_z 1 ?_))
 exact ai_ (t_e (ad_ _))
theorem jQ_ (m:List Rat) (l r:Bool) (a b:Rat) (mo:Nat) (g:Nat) (cap:List AV) (p wt:List Rat) (hcap:∀c∈cap,Closed c) (hm:1≤m.length∧m.length≤64) (hab:l=true→r=true→a< b) (ha:sm a) (hb:sm b)
    (hmo:mo≤m.length) (hg:FSpec Tryz.prog g (cap.map coe) (.tup [.arr (pE p),bln true])) (hr:FSpec Tryz.prog 160 [.arr (pE p)] (bln true)) (hpb:bdL p 68719476736) (hp0:trimQ p≠[]) (hpl:p.length≤1099511627776)
    (hon:FSpec Tryz.prog 161 [.agg (wC m l r (qC a) (qC b)),.arr (pE (bd_ p))] (.agg (ruC (bd_ p) wt))):
    FSpec Tryz.prog 84 [.agg (wC m l r (qC a) (qC b)),i64 0,i64 mo,.clos g [] cap] (.tup [.agg (ruC (bd_ p) wt),i64 0]):=by
 have hWc:∀c∈wC m l r (qC a) (qC b),Closed c:=aJ_ (.inr ⟨a,rfl⟩) (.inr ⟨b,rfl⟩)
 have hcw:=cI_ m l r a b hm hab ha hb
 have hmn:=ob_ p hpb hp0 hpl
 refine f_n Tryz.func84 ?_ ?_
 exact aa_ (aq_ hWc) (aa_ (ad_ _) (aa_ (ad_ _) (aa_ (aR_ ab_ hcap) ab_)))
 refine r_z 3 ?_
 refine ac_ (r_c 3 (hcw) ?_)
 refine a_z ?_
 refine s_r 2 ?_
 refine a_1 ?_
 refine o_0 (.bin rfl rfl (vF by_ (rfl))) ?_
 refine an_ ?_
 refine cF (ag_ (ac_ (ah_ (s_r 3 ?_))))
 refine a_1 ?_
 refine o_0 (.bin rfl rfl (vF by_ (rfl))) ?_
 refine a_z ?_
 refine cF (q_z 6 ?_)
 refine cF (ag_ (r_c 7 (hg) ?_))
 refine a_z ?_
 refine ac_ (r_c 7 (hr) ?_)
 refine a_z ?_
 refine cF (ag_ (ac_ (r_d hmix 6 ?_)))
 refine c_s (hmn) ?_
 refine c_s (hon) ?_
 refine a_2 ?_
 refine an_ (n_k ?_)
 refine ai_ (Fin.many ⟨_,_,rfl,⟨_,_,_,_,_,rfl,rfl,rfl,.inl ⟨tg_57.h,_,ts_57.h,nle rfl,rfl⟩⟩,⟨_,_,rfl,rfl,rfl⟩⟩ (nle rfl) ?_)
 exact af_ (al_ at_ (aq_ (bL_ _ _))) (af_ (al_ at_ (ad_ _)) ap_)
def bW(m:List Rat)(l r:Bool)(a b:Rat):AV:= .aptr [wC m l r (qC a) (qC b)] 0 0
theorem d9_(m:List Rat)(l r:Bool)(a b:Rat):Closed (bW m l r a b):=aj_ (aJ_ (.inr ⟨a,rfl⟩) (.inr ⟨b,rfl⟩))
def bIn(n:Int):AV:= .aptr [[i64 n]] 0 0
theorem c3_(n:Int):Closed (bIn n):=aj_ (aa_ (ad_ _) ab_)
theorem qc_(m:List Rat)(l r:Bool)(a b:Rat)(n:Nat)(hn:n≤1000)(hok:∀k,k< n→okLd m k):FSpec Tryz.prog 86 [bW m l r a b,bIn n] (.tup [.arr (pE (ldr m n).1),bln true]):=by
 have hcl:=jW_ m l r a b n hn hok
 refine f_n Tryz.func86 ?_ ?_
 exact aa_ (d9_ m l r a b) (aa_ (c3_ n) ab_)
 refine r_z 2 ?_
 refine r_c 8 (hcl) ?_
 refine a_z ?_
 refine r_z 7 ?_
 refine ai_ (Fin.many ⟨_,_,rfl,rfl,⟨_,_,rfl,rfl,rfl⟩⟩ (nle rfl) ?_)
 exact af_ (al_ at_ (ar_ _)) (af_ (al_ at_ (ad_ _)) ap_)
theorem fs_Gauss (m:List Rat) (l r:Bool) (a b:Rat) (n:Nat) (wt:List Rat) (hn:1≤n∧n≤25) (hok:∀k,k< n→okLd m k) (hm:2* n≤m.length∧m.length≤64) (hab:l=true→r=true→a< b) (ha:sm a) (hb:sm b)
    (hr:FSpec Tryz.prog 160 [.arr (pE (ldr m n).1)] (bln true)) (hpb:bdL (ldr m n).1 68719476736) (hp0:trimQ (ldr m n).1≠[]) (hpl:(ldr m n).1.length≤1099511627776)
    (hon:FSpec Tryz.prog 161 [.agg (wC m l r (qC a) (qC b)),.arr (pE (bd_ (ldr m n).1))] (.agg (ruC (bd_ (ldr m n).1) wt))):
    FSpec Tryz.prog 16 [.agg (wC m l r (qC a) (qC b)),i64 n] (.tup [.agg (ruC (bd_ (ldr m n).1) wt),i64 0]):=by
 have hWc:∀c∈wC m l r (qC a) (qC b),Closed c:=aJ_ (.inr ⟨a,rfl⟩) (.inr ⟨b,rfl⟩)
 have hra:=hS_ (n:Nat) 1 25 (by omega)
 have hcc:∀c∈[bW m l r a b,bIn n],Closed c:=aa_ (d9_ m l r a b) (aa_ (c3_ n) ab_)
 have hna:=jQ_ m l r a b (2* n) 86 [bW m l r a b,bIn n] (ldr m n).1 wt hcc (by omega) hab ha hb hm.1 (qc_ m l r a b n (by omega) hok) hr hpb hp0 hpl hon
 refine f_n Tryz.func16 ?_ ?_
 exact aa_ (aq_ hWc) (aa_ (ad_ _) ab_)
 refine r_z 4 ?_
 refine AWp.ent (st':=⟨[(2,bW m l r a b),(3,bIn n),(4,.lptr 1 0 0)],[(1,some ⟨57,2,[[.emp,.emp]]⟩)],2,15⟩) ?_ ?_
 refine as_ [(1,4)] rfl rfl rfl au_r (fun hs=>?_) (fun hs=>?_)
 ·repeat' (first|exact aA_|refine aw_ rfl ?_ ?_)
  all_goals (first|((try exact Cv.boxp hs rfl (aE_ rfl) rfl hWc);(try exact Cv.boxp hs rfl (aE_ rfl) rfl (aa_ (ad_ _) ab_));done)|exact au_c)
 ·repeat' (first|exact ao_|refine ak_ rfl rfl rfl rfl ?_ ?_)
  all_goals (first|exact au_e|(refine ae_ ?_;repeat' (first|exact ap_|refine af_ ?_ ?_)))
  all_goals (first|((try exact Cv.boxp hs rfl (aE_ rfl) rfl hWc);(try exact Cv.boxp hs rfl (aE_ rfl) rfl (aa_ (ad_ _) ab_));done)|exact au_c)
 refine ac_ (r_d hmix 11 ?_)
 refine c_s (hra) ?_
 refine c_s (hna) ?_
 refine a_4 ?_
 refine an_ (n_k ?_)
 refine ai_ (Fin.many ⟨_,_,rfl,⟨_,_,_,_,_,rfl,rfl,rfl,.inl ⟨tg_57.h,_,ts_57.h,nle rfl,rfl⟩⟩,⟨_,_,rfl,rfl,rfl⟩⟩ (nle rfl) ?_)
 exact af_ (al_ at_ (aq_ (bL_ _ _))) (af_ (al_ at_ (ad_ _)) ap_)
theorem fcR(n:Nat):(((fcN n:Nat):Int):Rat) * (((n+1:Nat):Int):Rat)=((fcN (n+1):Nat):Int):=by
 rw[fcN,Int.natCast_mul,Rat.intCast_mul]
def lgT(p k:Nat):Option (List AV):=some [.agg (qC (lgQ p k))]
theorem l4_(p K:Nat)(hp:p≤8)(hK:K≤63):GSpecB Tryz.prog 194 [bIn p] (lgT p) K:=by
 have hcb:Closed (bIn p):=aj_ (aa_ (ad_ _) ab_)
 have h1:=aZ_ 1 (by decide)
 refine GSpecB.enter Tryz.func194 rfl (by kernel_rfl) rfl rfl rfl ?_ ?_ rfl ?_
 exact aa_ hcb ab_
 intro k xs h
 cases h
 exact aa_ (av_ _) ab_
 intro ll N hN E
 refine GWp.seq ?_
 refine GWp.lift ?_
 refine r_m 3 ?_
 refine c_s (h1) ?_
 refine a_z ?_
 refine GWp.seq ?_
 refine GWp.seq ?_
 refine GWp.lift ?_
 refine r_m 1 ?_
 refine a_z ?_
 refine GWp.cutT (fun _:Unit=>⟨[(0,.v (.func (.yield ll) #[] #[])),(1,bIn p),(3,.lptr 1 0 0)],[(1,some ⟨35,3,[qC (((fcN p:Nat):Int):Rat)]⟩)],2,27⟩) (fun _=>True) ?_ ?_
 refine ah_ (ax_ (fun k:Nat=>⟨[(0,.v (.func (.yield ll) #[] #[])),(1,bIn p),(3,.lptr 1 0 0),(4,i64 ((k+1:Nat):Int))],[(1,some ⟨35,3,[qC (((fcN k:Nat):Int):Rat)]⟩)],2,27⟩) (fun k=>p- k) (fun k=>k≤p) 0 (Nat.zero_le _) ?_ ?_)
 exact s_e [(1,3)]
 intro k hk
 by_cases hlt:k< p
 have hw:=aZ_ ((k+1:Nat):Int) (by omega)
 have hm:=cW_ (((fcN k:Nat):Int):Rat) (((k+1:Nat):Int):Rat) (by
  have:=gI_ (n:=k) (by omega)
  have:=qi21 (n:=((k+1:Nat):Int)) (by omega)
  omega)
 rw[fcR] at hm
 refine ac_ (q_z 3 ?_)
 refine cT (ag_ (ac_ (ah_ (r_d hmix 5 ?_))))
 refine c_s (hw) ?_
 refine c_s (hm) ?_
 refine a_1 ?_
 refine an_ (n_k ?_)
 refine r_m 3 ?_
 refine a_z ?_
 refine⟨k+1,by omega,hlt,?_⟩
 exact s_e [(1,3)]
 have hge:k=p:=by omega
 subst hge
 refine ac_ (q_z 3 ?_)
 refine cF (au_ ⟨(),trivial,?_⟩)
 exact s_e [(1,3)]
 rintro _ _
 refine GWp.seq ?_
 refine GWp.lift ?_
 refine r_m 3 ?_
 refine a_z ?_
 refine GWp.block ?_
 refine GWp.loopS (fun k:Nat=>⟨[(0,.v (.func (.yield ll) #[] #[])),(1,bIn p),(3,.lptr 1 0 0),(5,i64 ((p+k+1:Nat):Int))],[(1,some ⟨35,3,[qC (lgQ p k)]⟩)],2,27⟩) (fun k=>k) (fun k=>N+1- k) (fun k=>k≤N) 0 (Nat.zero_le _) rfl ?_ ?_
 exact s_e [(1,3)]
 intro k hk
 refine GWp.seq ?_
 refine GWp.seq ?_
 refine GWp.regY (fr2:=[(0,.v (.func (.yield ll) #[] #[])),(1,bIn p),(3,.lptr 1 0 0),(5,i64 ((p+k+1:Nat):Int)),(18,.v (.func (.yield ll) #[] #[])),(19,.agg (qC (lgQ p k)))]) (hp2:=[(1,some ⟨35,3,[qC (lgQ p k)]⟩)]) (nx2:=2) 2 rfl rfl rfl rfl rfl rfl ?_ rfl rfl rfl ?_ ?_ ?_
 refine o_0 (.move rfl) ?_
 first|refine aB_ (.load_l rfl rfl rfl tg_35.h ts_35.h (nle rfl)) rfl rfl ?_|refine aB_ (.load_a rfl rfl tg_35.h ts_35.h (nle rfl)) rfl rfl ?_
 refine an_ ?_
 refine SEntT.to [(1,3)] rfl rfl rfl au_r (fun hs=>au_f) (fun hs=>au_h)
 rotate_left 2
 intro go
 refine an_ ?_
 rotate_left
 rfl
 exact aa_ (av_ _) ab_
 cases go with
 |false=>
  refine GWp.cond rfl (fun h=>?_) (fun h=>?_)
  cases h
  exact GWp.exit ⟨.inl rfl,fun h=>by cases h⟩
 |true=>
  refine GWp.bound fun hk1=>?_
  refine GWp.cond rfl (fun h=>?_) (fun h=>?_)
  rotate_left
  cases h
  refine GWp.skip ?_
  have hw:=aZ_ ((p+k+1:Nat):Int) (by omega)
  have hm:=cW_ (lgQ p k) (((p+k+1:Nat):Int):Rat) (by
   have h1:=gI_ (n:=p+k) (by omega)
   have h2:=qi21 (n:=((p+k+1:Nat):Int)) (by omega)
   show qs (((fcN (p+k):Nat):Int):Rat)+_≤_
   omega)
  have e:lgQ p k* (((p+k+1:Nat):Int):Rat)=lgQ p (k+1):=fcR (p+k)
  rw[e] at hm
  refine GWp.seq ?_
  refine GWp.lift ?_
  refine ah_ (r_d hmix 5 ?_)
  refine c_s (hw) ?_
  refine c_s (hm) ?_
  refine a_1 ?_
  refine an_ (n_k ?_)
  refine GWp.lift ?_
  refine r_m 3 ?_
  refine a_z ?_
  refine⟨rfl,k+1,by omega,hk1,rfl,?_⟩
  exact s_e [(1,3)]
theorem Cv_wz{r:Ren}{hp hp':Nat→Option ABlk}(h:Shr r hp hp')(m:List Rat)(l b:Bool):Cv r hp hp' (.agg ([.arr (pE m),bln l,bln b]++zC++zC)) (.agg (wC m l b (qC 0) (qC 0))):=
 Cv.agg (cq_ (cq_ (af_ (al_ h (ar_ m)) (af_ (al_ h (ad_ _)) (af_ (al_ h (ad_ _)) ap_))) (eb_ h)) (eb_ h))
theorem md_(p n:Nat)(hp:p≤8)(hn:n≤63):FSpec Tryz.prog 106 [i64 p,i64 n] (.tup [.agg (wC (sqL (lgQ p) (n+1)) true false (qC 0) (qC 0)),i64 0]):=by
 have hop:=bo_ (p:Nat) 0 8
 rw[decide_eq_false (by omega)] at hop
 have hon:=bo_ (n:Nat) 0 63
 rw[decide_eq_false (by omega)] at hon
 have htk:=gZ_ 194 [bIn p] (aa_ (aj_ (aa_ (ad_ _) ab_)) ab_) (lgQ p) n (by omega) rfl (l4_ p n hp hn)
 refine f_n Tryz.func106 ?_ ?_
 exact aa_ (ad_ _) (aa_ (ad_ _) ab_)
 refine r_z 3 ?_
 refine ac_ (r_c 6 (hop) ?_)
 refine c_s (hon) ?_
 refine a_z ?_
 refine cF (ag_ (AWp.ent (st':=⟨[(1,i64 n),(2,bIn p),(4,.lptr 1 0 0)],[(1,some ⟨51,9,[w0C]⟩)],2,19⟩) ?_ ?_))
 exact s_f [(1,4)]
 refine r_z 2 ?_
 refine r_c 6 (htk) ?_
 refine a_z ?_
 refine ai_ (Fin.many ⟨_,_,rfl,⟨_,_,_,_,_,rfl,rfl,rfl,.inl ⟨tg_51.h,_,ts_51.h,nle rfl,rfl⟩⟩,⟨_,_,rfl,rfl,rfl⟩⟩ (nle rfl) ?_)
 exact af_ (Cv_wz at_ _ _ _) (af_ (al_ at_ (ad_ _)) ap_)
theorem k7_(p n:Int)(h:p< 0∨8< p∨n< 0∨63< n):FSpec Tryz.prog 106 [i64 p,i64 n] (.tup [.agg wZ,i64 3]):=by
 have hop:=bo_ p 0 8
 have hon:=bo_ n 0 63
 refine f_n Tryz.func106 ?_ ?_
 exact aa_ (ad_ _) (aa_ (ad_ _) ab_)
 refine r_z 3 ?_
 by_cases h1:p< 0∨8< p
 rw[decide_eq_true h1] at hop
 refine ac_ (r_c 6 (hop) ?_)
 refine a_z ?_
 refine cT (r_z 3 ?_)
 refine ai_ (Fin.many ⟨_,_,rfl,⟨_,_,_,_,_,rfl,rfl,rfl,.inl ⟨tg_51.h,_,ts_51.h,nle rfl,rfl⟩⟩,⟨_,_,rfl,rfl,rfl⟩⟩ (nle rfl) ?_)
 exact af_ (Cv_wZ at_) (af_ (al_ at_ (ad_ _)) ap_)
 rw[decide_eq_false h1] at hop
 rw[decide_eq_true (show n< 0∨63< n by omega)] at hon
 refine ac_ (r_c 6 (hop) ?_)
 refine c_s (hon) ?_
 refine a_z ?_
 refine cT (r_z 3 ?_)
 refine ai_ (Fin.many ⟨_,_,rfl,⟨_,_,_,_,_,rfl,rfl,rfl,.inl ⟨tg_51.h,_,ts_51.h,nle rfl,rfl⟩⟩,⟨_,_,rfl,rfl,rfl⟩⟩ (nle rfl) ?_)
 exact af_ (Cv_wZ at_) (af_ (al_ at_ (ad_ _)) ap_)
def bFn(g:Nat):AV:= .aptr [[.clos g [] []]] 0 0
theorem ji_(g:Nat):Closed (bFn g):=aj_ (aa_ (aR_ ab_ ab_) ab_)
def evT(f:Nat→Rat)(k:Nat):Option (List AV):=some [.agg (qC (evW f k))]
theorem gs_even(g:Nat)(f:Nat→Rat)(K:Nat)(hK:K≤63)(hg:∀j,j≤40→FSpec Tryz.prog g [i64 ((2* (j+1):Nat):Int)] (.agg (qC (f (2* (j+1))))))(hf:∀k,k≤200→qs (f k)≤42):GSpecB Tryz.prog 252 [bFn g] (evT f) K:=by
 have hcb:=ji_ g
 have h1:=aZ_ 1 (by decide)
 refine GSpecB.enter Tryz.func252 rfl (by kernel_rfl) rfl rfl rfl ?_ ?_ rfl ?_
 exact aa_ hcb ab_
 intro k xs h
 cases h
 exact aa_ (av_ _) ab_
 intro ll N hN E
 refine GWp.seq ?_
 refine GWp.lift ?_
 refine r_m 3 ?_
 refine c_s (h1) ?_
 refine a_z ?_
 refine GWp.seq ?_
 refine GWp.lift ?_
 refine r_m 1 ?_
 refine a_z ?_
 refine GWp.block ?_
 refine GWp.loopS (fun j:Nat=>⟨[(0,.v (.func (.yield ll) #[] #[])),(1,bFn g),(3,.lptr 1 0 0),(4,i64 ((2* (j+1):Nat):Int))],[(1,some ⟨35,3,[qC (evM f j)]⟩)],2,21⟩) (fun j=>2* j) (fun j=>N+2- 2* j) (fun j=>2* j≤N) 0 (Nat.zero_le _) rfl ?_ ?_
 exact s_e [(1,3)]
 intro j hj
 have e0:evW f (2* j)=evM f j:=by
  unfold evW
  rw[if_pos (by omega),show 2* j/ 2=j by omega]
 have e1:evW f (2* j+1)=0:=by
  unfold evW
  rw[if_neg (by omega)]
 refine GWp.seq ?_
 refine GWp.seq ?_
 refine GWp.regL ?_
 refine GLs.yield (fr2:=[(0,.v (.func (.yield ll) #[] #[])),(1,bFn g),(3,.lptr 1 0 0),(4,i64 ((2* (j+1):Nat):Int)),(6,.v (.func (.yield ll) #[] #[])),(7,.agg (qC (evM f j)))]) (hp2:=[(1,some ⟨35,3,[qC (evM f j)]⟩)]) (nx2:=2) 2 rfl rfl rfl rfl (.inl rfl) ?_ rfl rfl rfl ?_ ?_ ?_
 refine o_0 (.move rfl) ?_
 first|refine aB_ (.load_l rfl rfl rfl tg_35.h ts_35.h (nle rfl)) rfl rfl ?_|refine aB_ (.load_a rfl rfl tg_35.h ts_35.h (nle rfl)) rfl rfl ?_
 refine an_ ?_
 refine SEntT.to [(1,3)] rfl rfl rfl au_r (fun hs=>au_f) (fun hs=>au_h)
 show evT f (2* j)=_
 unfold evT
 rw[e0]
 rfl
 exact aa_ (av_ _) ab_
 intro go
 cases go with
 |false=>
  refine GLs.fin rfl ?_
  refine o_0 (.move rfl) ?_
  first|refine ay_ rfl rfl rfl (.move rfl) rfl rfl ?_|refine bt_ rfl rfl (by first|(simp[bf_];done)|exact nofun) rfl rfl ?_
  first|refine ay_ rfl rfl rfl (.build tz_35.h tp_35.h rfl rfl) rfl rfl ?_|refine bt_ rfl rfl (by first|(simp[bf_];done)|exact nofun) rfl rfl ?_
  first|refine bt_ rfl rfl (by first|(simp[bf_];done)|exact nofun) rfl rfl ?_
  first|refine aB_ (.pick rfl (fun _=>rfl) (fun _=>rfl)) rfl rfl ?_|refine aB_ (.pick rfl (fun _=>rfl) (fun h=>absurd h (by decide))) rfl rfl ?_|refine aB_ (.pick rfl (fun h=>absurd h (by decide)) (fun _=>rfl)) rfl rfl ?_
  refine an_ ?_
  refine GWp.cond rfl (fun h=>?_) (fun h=>?_)
  cases h
  exact GWp.exit ⟨.inl rfl,fun h=>by cases h⟩
 |true=>
  refine GLs.yield (fr2:=[(0,.v (.func (.yield ll) #[] #[])),(1,bFn g),(3,.lptr 1 0 0),(4,i64 ((2* (j+1):Nat):Int)),(9,bln true),(10,.v (.func (.yield ll) #[] #[])),(11,.agg (qC 0))]) (hp2:=[(1,some ⟨35,3,[qC (evM f j)]⟩)]) (nx2:=2) 3 rfl rfl rfl rfl (.inr ⟨3,9,rfl,rfl,rfl⟩) ?_ rfl rfl rfl ?_ ?_ ?_
  ·refine o_0 (.move rfl) ?_
   first|refine ay_ rfl rfl rfl (.move rfl) rfl rfl ?_|refine bt_ rfl rfl (by first|(simp[bf_];done)|exact nofun) rfl rfl ?_
   first|refine ay_ rfl rfl rfl (.build tz_35.h tp_35.h rfl rfl) rfl rfl ?_|refine bt_ rfl rfl (by first|(simp[bf_];done)|exact nofun) rfl rfl ?_
   refine an_ ?_
   refine SEntT.to [(1,3)] rfl rfl rfl au_r (fun hs=>?_) (fun hs=>?_)
   ·repeat' (first|exact aA_|refine aw_ rfl ?_ ?_)
    all_goals (first|(exact Cv.agg (eb_ hs))|exact au_c)
   ·repeat' (first|exact ao_|refine ak_ rfl rfl rfl rfl ?_ ?_)
    all_goals (first|exact au_e|(refine ae_ ?_;repeat' (first|exact ap_|refine af_ ?_ ?_)))
    all_goals (first|(exact Cv.agg (eb_ hs))|exact au_c)
  show evT f (2* j+1)=_
  unfold evT
  rw[e1]
  rfl
  exact aa_ (av_ _) ab_
  intro go
  refine GLs.fin rfl ?_
  first|refine aB_ (.pick rfl (fun _=>rfl) (fun _=>rfl)) rfl rfl ?_|refine aB_ (.pick rfl (fun _=>rfl) (fun h=>absurd h (by decide))) rfl rfl ?_|refine aB_ (.pick rfl (fun h=>absurd h (by decide)) (fun _=>rfl)) rfl rfl ?_
  refine an_ ?_
  cases go with
  |false=>
   refine GWp.cond rfl (fun h=>?_) (fun h=>?_)
   cases h
   exact GWp.exit ⟨.inl rfl,fun h=>by cases h⟩
  |true=>
   refine GWp.bound fun hk1=>?_
   refine GWp.cond rfl (fun h=>?_) (fun h=>?_)
   rotate_left
   cases h
   refine GWp.skip ?_
   have hfk:=hg j (by omega)
   have hm:=cW_ (evM f j) (f (2* (j+1))) (by
    have h1:=qm_ (f:=f) (s:=42) j fun i hi=>hf _ (by omega)
    have h2:=hf (2* (j+1)) (by omega)
    omega)
   refine GWp.seq ?_
   refine GWp.lift ?_
   refine ah_ (r_d hmix 6 ?_)
   refine c_s (hfk) ?_
   refine c_s (hm) ?_
   refine a_1 ?_
   refine an_ (n_k ?_)
   refine GWp.lift ?_
   refine r_m 3 ?_
   refine a_z ?_
   refine⟨rfl,j+1,by omega,by omega,by omega,?_⟩
   exact s_e [(1,3)]
theorem mc_(g:Nat)(f:Nat→Rat)(n:Nat)(hn:n≤63)(hg:∀j,j≤40→FSpec Tryz.prog g [i64 ((2* (j+1):Nat):Int)] (.agg (qC (f (2* (j+1))))))(hf:∀k,k≤200→qs (f k)≤42):FSpec Tryz.prog 196 [i64 n,.clos g [] []] (.tup [.arr (pE (sqL (evW f) (n+1))),i64 0]):=by
 have hon:=bo_ (n:Nat) 0 63
 rw[decide_eq_false (by omega)] at hon
 have hcg:Closed (.clos g [] []):=aR_ ab_ ab_
 have htk:=gZ_ 252 [bFn g] (aa_ (ji_ g) ab_) (evW f) n (by omega) rfl (gs_even g f n hn hg hf)
 refine f_n Tryz.func196 ?_ ?_
 exact aa_ (ad_ _) (aa_ hcg ab_)
 refine r_z 3 ?_
 refine ac_ (r_c 2 (hon) ?_)
 refine an_ ?_
 refine cF (ag_ (AWp.ent (st':=⟨[(0,i64 n),(3,bFn g)],[],1,13⟩) ?_ ?_))
 have:=aa_ hcg ab_
 exact s_f []
 refine r_z 2 ?_
 refine r_c 5 (htk) ?_
 refine a_z ?_
 refine ai_ (Fin.many ⟨_,_,rfl,rfl,⟨_,_,rfl,rfl,rfl⟩⟩ (nle rfl) ?_)
 exact af_ (al_ at_ (ar_ _)) (af_ (al_ at_ (ad_ _)) ap_)
theorem jT_(g:Nat)(n:Int)(h:n< 0∨63< n):FSpec Tryz.prog 196 [i64 n,.clos g [] []] (.tup [.arr (pE []),i64 3]):=by
 have hon:=bo_ n 0 63
 rw[decide_eq_true h] at hon
 refine f_n Tryz.func196 ?_ ?_
 exact aa_ (ad_ _) (aa_ (aR_ ab_ ab_) ab_)
 refine r_z 3 ?_
 refine ac_ (r_c 2 (hon) ?_)
 refine an_ ?_
 refine cT (r_z 2 ?_)
 refine ai_ (Fin.many ⟨_,_,rfl,rfl,⟨_,_,rfl,rfl,rfl⟩⟩ (nle rfl) ?_)
 exact af_ (Cv.emp _) (af_ (al_ at_ (ad_ _)) ap_)
theorem fs_Herm1(j:Nat)(hj:j≤40):FSpec Tryz.prog 197 [i64 ((2* (j+1):Nat):Int)] (.agg (qC (evK 1 (2* (j+1))))):=by
 have h1:=aZ_ (((2* (j+1):Nat):Int)- 1) (by omega)
 have h2:=aZ_ 2 (by decide)
 have q1:=qi21 (n:=((2* (j+1):Nat):Int)- 1) (by omega)
 have q2:=qi21 (n:=2) (by decide)
 have h3:=dz_ ((((2* (j+1):Nat):Int)- 1:Int):Rat) ((2:Int):Rat) (by decide) (by omega)
 refine f_n Tryz.func197 ?_ ?_
 exact aa_ (ad_ _) ab_
 refine r_z 1 ?_
 refine r_c 6 (h1) ?_
 refine c_s (h2) ?_
 refine c_s (h3) ?_
 refine a_z ?_
 exact ai_ (c_e (av_ _))
theorem m3_{n:Int}(h:n≠0):(n:Rat)≠0:=fun e=>h (by have:=congrArg Rat.num e;exact this)
theorem fs_Firs1(j:Nat)(hj:j≤40):FSpec Tryz.prog 199 [i64 ((2* (j+1):Nat):Int)] (.agg (qC (evK 2 (2* (j+1))))):=by
 have h1:=aZ_ (((2* (j+1):Nat):Int)- 1) (by omega)
 have h2:=aZ_ ((2* (j+1):Nat):Int) (by omega)
 have q1:=qi21 (n:=((2* (j+1):Nat):Int)- 1) (by omega)
 have q2:=qi21 (n:=((2* (j+1):Nat):Int)) (by omega)
 have h3:=dz_ ((((2* (j+1):Nat):Int)- 1:Int):Rat) (((2* (j+1):Nat):Int):Rat) (m3_ (by omega)) (by omega)
 refine f_n Tryz.func199 ?_ ?_
 exact aa_ (ad_ _) ab_
 refine r_z 1 ?_
 refine r_c 7 (h1) ?_
 refine c_s (h2) ?_
 refine c_s (h3) ?_
 refine a_z ?_
 exact ai_ (c_e (av_ _))
theorem fs_Seco1(j:Nat)(hj:j≤40):FSpec Tryz.prog 200 [i64 ((2* (j+1):Nat):Int)] (.agg (qC (evK 3 (2* (j+1))))):=by
 have h1:=aZ_ (((2* (j+1):Nat):Int)- 1) (by omega)
 have h2:=aZ_ (((2* (j+1):Nat):Int)+2) (by omega)
 have q1:=qi21 (n:=((2* (j+1):Nat):Int)- 1) (by omega)
 have q2:=qi21 (n:=((2* (j+1):Nat):Int)+2) (by omega)
 have h3:=dz_ ((((2* (j+1):Nat):Int)- 1:Int):Rat) ((((2* (j+1):Nat):Int)+2:Int):Rat) (m3_ (by omega)) (by omega)
 refine f_n Tryz.func200 ?_ ?_
 exact aa_ (ad_ _) ab_
 refine r_z 1 ?_
 refine r_c 8 (h1) ?_
 refine c_s (h2) ?_
 refine c_s (h3) ?_
 refine a_z ?_
 exact ai_ (c_e (av_ _))
theorem k4_(m:List Rat):FSpec Tryz.prog 198 [.arr (pE m),i64 0] (.tup [.agg (wC m true true (qC ((-1:Int):Rat)) (qC ((1:Int):Rat))),i64 0]):=by
 have h1:=aZ_ 1 (by decide)
 have h2:=aZ_ (-1) (by decide)
 refine f_n Tryz.func198 ?_ ?_
 exact aa_ (ar_ m) (aa_ (ad_ _) ab_)
 refine r_z 2 ?_
 refine ac_ (s_r 2 ?_)
 refine a_1 ?_
 refine o_0 (.bin rfl rfl (vF by_ (rfl))) ?_
 refine an_ ?_
 refine cF (ag_ (r_c 6 (h2) ?_))
 refine c_s (h1) ?_
 refine a_z ?_
 refine ai_ (Fin.many ⟨_,_,rfl,⟨_,_,_,_,_,rfl,rfl,rfl,.inl ⟨tg_51.h,_,ts_51.h,nle rfl,rfl⟩⟩,⟨_,_,rfl,rfl,rfl⟩⟩ (nle rfl) ?_)
 exact af_ (al_ at_ (aq_ (aJ_ (.inr ⟨_,rfl⟩) (.inr ⟨_,rfl⟩)))) (af_ (al_ at_ (ad_ _)) ap_)
theorem k3_(m:List Rat):FSpec Tryz.prog 198 [.arr (pE m),i64 3] (.tup [.agg wZ,i64 3]):=by
 refine f_n Tryz.func198 ?_ ?_
 exact aa_ (ar_ m) (aa_ (ad_ _) ab_)
 refine r_z 2 ?_
 refine ac_ (s_r 2 ?_)
 refine a_1 ?_
 refine o_0 (.bin rfl rfl (vT by_ (rfl))) ?_
 refine an_ ?_
 refine cT (r_z 4 ?_)
 refine ai_ (Fin.many ⟨_,_,rfl,⟨_,_,_,_,_,rfl,rfl,rfl,.inl ⟨tg_51.h,_,ts_51.h,nle rfl,rfl⟩⟩,⟨_,_,rfl,rfl,rfl⟩⟩ (nle rfl) ?_)
 exact af_ (Cv_wZ at_) (af_ (al_ at_ (ad_ _)) ap_)
theorem jd_(m:List Rat)(n e:Int)(h:FSpec Tryz.prog 196 [i64 n,.clos 197 [] []] (.tup [.arr (pE m),i64 e])):FSpec Tryz.prog 108 [i64 n] (.tup [.agg (wC m false false (qC 0) (qC 0)),i64 e]):=by
 refine f_n Tryz.func108 ?_ ?_
 exact aa_ (ad_ _) ab_
 refine r_z 2 ?_
 refine r_c 7 (h) ?_
 refine a_z ?_
 refine r_z 5 ?_
 refine ai_ (Fin.many ⟨_,_,rfl,⟨_,_,_,_,_,rfl,rfl,rfl,.inl ⟨tg_51.h,_,ts_51.h,nle rfl,rfl⟩⟩,⟨_,_,rfl,rfl,rfl⟩⟩ (nle rfl) ?_)
 exact af_ (Cv_wz at_ _ _ _) (af_ (al_ at_ (ad_ _)) ap_)
theorem nq_(m:List Rat)(n e:Int)(m':List Rat)(l r:Bool)(a b:Rat)(h:FSpec Tryz.prog 196 [i64 n,.clos 199 [] []] (.tup [.arr (pE m),i64 e]))(ha:FSpec Tryz.prog 198 [.arr (pE m),i64 e] (.tup [.agg (wC m' l r (qC a) (qC b)),i64 e])):
    FSpec Tryz.prog 109 [i64 n] (.tup [.agg (wC m' l r (qC a) (qC b)),i64 e]):=by
 refine f_n Tryz.func109 ?_ ?_
 exact aa_ (ad_ _) ab_
 refine r_z 2 ?_
 refine r_c 9 (h) ?_
 refine c_s (ha) ?_
 refine a_z ?_
 refine ai_ (Fin.many ⟨_,_,rfl,⟨_,_,_,_,_,rfl,rfl,rfl,.inl ⟨tg_51.h,_,ts_51.h,nle rfl,rfl⟩⟩,⟨_,_,rfl,rfl,rfl⟩⟩ (nle rfl) ?_)
 exact af_ (al_ at_ (aq_ (aJ_ (.inr ⟨_,rfl⟩) (.inr ⟨_,rfl⟩)))) (af_ (al_ at_ (ad_ _)) ap_)
theorem k5_(m:List Rat)(n e:Int)(m':List Rat)(l r:Bool)(a b:Rat)(h:FSpec Tryz.prog 196 [i64 n,.clos 200 [] []] (.tup [.arr (pE m),i64 e]))(ha:FSpec Tryz.prog 198 [.arr (pE m),i64 e] (.tup [.agg (wC m' l r (qC a) (qC b)),i64 e])):
    FSpec Tryz.prog 110 [i64 n] (.tup [.agg (wC m' l r (qC a) (qC b)),i64 e]):=by
 refine f_n Tryz.func110 ?_ ?_
 exact aa_ (ad_ _) ab_
 refine r_z 2 ?_
 refine r_c 9 (h) ?_
 refine c_s (ha) ?_
 refine a_z ?_
 refine ai_ (Fin.many ⟨_,_,rfl,⟨_,_,_,_,_,rfl,rfl,rfl,.inl ⟨tg_51.h,_,ts_51.h,nle rfl,rfl⟩⟩,⟨_,_,rfl,rfl,rfl⟩⟩ (nle rfl) ?_)
 exact af_ (al_ at_ (aq_ (aJ_ (.inr ⟨_,rfl⟩) (.inr ⟨_,rfl⟩)))) (af_ (al_ at_ (ad_ _)) ap_)
end Go.Proofs.YtdjfjpeoddmamaaGreatDoor
namespace Go.Proofs.YtdjfjpeoddmamaaGreatDoor
open Go.Shelf
def n9_:Go.Shelf.Ren:=⟨fun|171=>172|243=>242|246=>289|283=>315|284=>316|285=>317|286=>318|129=>330|317=>329|318=>331|319=>332|320=>333|337=>335|338=>336|n=>n,fun|3=>3|9=>9|2=>2|4=>4|171=>337|0=>0|53=>235|37=>221|5=>5|173=>340|212=>351|51=>236|20=>20|213=>352|46=>318|232=>356|233=>357|n=>n,fun|17=>0|18=>2|19=>3|n=>n⟩
theorem lay171:Go.Proofs.LaysM.n171 Tryz.prog n9_:={
 mixed:=by kernel_rfl,
 f129:=Tryz.func330.trans (congrArg some (by kernel_rfl)),
 f171:=Tryz.func172.trans (congrArg some (by kernel_rfl)),
 f243:=Tryz.func242.trans (congrArg some (by kernel_rfl)),
 f246:=Tryz.func289.trans (congrArg some (by kernel_rfl)),
 f283:=Tryz.func315.trans (congrArg some (by kernel_rfl)),
 f284:=Tryz.func316.trans (congrArg some (by kernel_rfl)),
 f285:=Tryz.func317.trans (congrArg some (by kernel_rfl)),
 f286:=Tryz.func318.trans (congrArg some (by kernel_rfl)),
 f317:=Tryz.func329.trans (congrArg some (by kernel_rfl)),
 f318:=Tryz.func331.trans (congrArg some (by kernel_rfl)),
 f319:=Tryz.func332.trans (congrArg some (by kernel_rfl)),
 f320:=Tryz.func333.trans (congrArg some (by kernel_rfl)),
 f337:=Tryz.func335.trans (congrArg some (by kernel_rfl)),
 f338:=Tryz.func336.trans (congrArg some (by kernel_rfl)),
 t0:=Tryz.underlying0,
 a0:=Tryz.isAgg0,
 z0:=Tryz.sizeOf0,
 v0:=Tryz.zeroValue0,
 t2:=Tryz.underlying2,
 a2:=Tryz.isAgg2,
 z2:=Tryz.sizeOf2,
 v2:=Tryz.zeroValue2,
 t3:=Tryz.underlying3,
 a3:=Tryz.isAgg3,
 z3:=Tryz.sizeOf3,
 v3:=Tryz.zeroValue3,
 t4:=Tryz.underlying4,
 a4:=Tryz.isAgg4,
 z4:=Tryz.sizeOf4,
 v4:=Tryz.zeroValue4,
 t5:=Tryz.underlying5,
 a5:=Tryz.isAgg5,
 z5:=Tryz.sizeOf5,
 v5:=Tryz.zeroValue5,
 t9:=Tryz.underlying9,
 a9:=Tryz.isAgg9,
 z9:=Tryz.sizeOf9,
 v9:=Tryz.zeroValue9,
 t20:=Tryz.underlying20,
 a20:=Tryz.isAgg20,
 z20:=Tryz.sizeOf20,
 v20:=Tryz.zeroValue20,
 t37:=Tryz.underlying221,
 a37:=Tryz.isAgg221,
 z37:=Tryz.sizeOf221,
 v37:=Tryz.zeroValue221,
 t46:=Tryz.underlying318,
 a46:=Tryz.isAgg318,
 z46:=Tryz.sizeOf318,
 v46:=Tryz.zeroValue318,
 t51:=Tryz.underlying236,
 a51:=Tryz.isAgg236,
 z51:=Tryz.sizeOf236,
 v51:=Tryz.zeroValue236,
 t53:=Tryz.underlying235,
 a53:=Tryz.isAgg235,
 z53:=Tryz.sizeOf235,
 v53:=Tryz.zeroValue235,
 t171:=Tryz.underlying337,
 a171:=Tryz.isAgg337,
 z171:=Tryz.sizeOf337,
 v171:=Tryz.zeroValue337,
 t173:=Tryz.underlying340,
 a173:=Tryz.isAgg340,
 z173:=Tryz.sizeOf340,
 v173:=Tryz.zeroValue340,
 t212:=Tryz.underlying351,
 a212:=Tryz.isAgg351,
 z212:=Tryz.sizeOf351,
 v212:=Tryz.zeroValue351,
 t213:=Tryz.underlying352,
 a213:=Tryz.isAgg352,
 z213:=Tryz.sizeOf352,
 t232:=Tryz.underlying356,
 a232:=Tryz.isAgg356,
 z232:=Tryz.sizeOf356,
 v232:=Tryz.zeroValue356,
 t233:=Tryz.underlying357,
 a233:=Tryz.isAgg357,
 z233:=Tryz.sizeOf357,
 v233:=Tryz.zeroValue357,
 g17:=by kernel_rfl,
 g18:=by kernel_rfl,
 g19:=by kernel_rfl,
 i0:=by kernel_rfl,
 i2:=by kernel_rfl,
 i3:=by kernel_rfl,
 i4:=by kernel_rfl,
 i5:=by kernel_rfl,
 i9:=by kernel_rfl,
 i20:=by kernel_rfl,
 i37:=by kernel_rfl,
 i46:=by kernel_rfl,
 i51:=by kernel_rfl,
 i53:=by kernel_rfl,
 i171:=by kernel_rfl,
 i173:=by kernel_rfl,
 i212:=by kernel_rfl,
 i232:=by kernel_rfl,
 i233:=by kernel_rfl,
 m17:=by kernel_rfl,
 m18:=by kernel_rfl,
 m19:=by kernel_rfl}
def i2_:Go.Shelf.Ren:=⟨fun|105=>240|212=>285|99=>286|165=>287|166=>171|170=>170|169=>173|263=>311|264=>312|206=>313|240=>241|241=>314|276=>288|277=>328|n=>n,fun|9=>9|3=>3|4=>4|20=>20|0=>0|46=>318|109=>319|5=>5|72=>223|76=>226|51=>236|146=>333|53=>235|148=>335|70=>220|37=>221|75=>225|127=>288|164=>323|80=>136|n=>n,fun|n=>n⟩
theorem lay105:Go.Proofs.Lays.n105 Tryz.prog i2_:={
 mixed:=by kernel_rfl,
 f99:=Tryz.func286.trans (congrArg some (by kernel_rfl)),
 f105:=Tryz.func240.trans (congrArg some (by kernel_rfl)),
 f165:=Tryz.func287.trans (congrArg some (by kernel_rfl)),
 f166:=Tryz.func171.trans (congrArg some (by kernel_rfl)),
 f169:=Tryz.func173.trans (congrArg some (by kernel_rfl)),
 f170:=Tryz.func170.trans (congrArg some (by kernel_rfl)),
 f206:=Tryz.func313.trans (congrArg some (by kernel_rfl)),
 f212:=Tryz.func285.trans (congrArg some (by kernel_rfl)),
 f240:=Tryz.func241.trans (congrArg some (by kernel_rfl)),
 f241:=Tryz.func314.trans (congrArg some (by kernel_rfl)),
 f263:=Tryz.func311.trans (congrArg some (by kernel_rfl)),
 f264:=Tryz.func312.trans (congrArg some (by kernel_rfl)),
 f276:=Tryz.func288.trans (congrArg some (by kernel_rfl)),
 f277:=Tryz.func328.trans (congrArg some (by kernel_rfl)),
 t0:=Tryz.underlying0,
 a0:=Tryz.isAgg0,
 z0:=Tryz.sizeOf0,
 v0:=Tryz.zeroValue0,
 t3:=Tryz.underlying3,
 a3:=Tryz.isAgg3,
 z3:=Tryz.sizeOf3,
 v3:=Tryz.zeroValue3,
 t4:=Tryz.underlying4,
 a4:=Tryz.isAgg4,
 z4:=Tryz.sizeOf4,
 v4:=Tryz.zeroValue4,
 t5:=Tryz.underlying5,
 a5:=Tryz.isAgg5,
 z5:=Tryz.sizeOf5,
 v5:=Tryz.zeroValue5,
 t9:=Tryz.underlying9,
 a9:=Tryz.isAgg9,
 z9:=Tryz.sizeOf9,
 v9:=Tryz.zeroValue9,
 t20:=Tryz.underlying20,
 a20:=Tryz.isAgg20,
 z20:=Tryz.sizeOf20,
 v20:=Tryz.zeroValue20,
 t37:=Tryz.underlying221,
 a37:=Tryz.isAgg221,
 z37:=Tryz.sizeOf221,
 v37:=Tryz.zeroValue221,
 t46:=Tryz.underlying318,
 a46:=Tryz.isAgg318,
 z46:=Tryz.sizeOf318,
 v46:=Tryz.zeroValue318,
 t51:=Tryz.underlying236,
 a51:=Tryz.isAgg236,
 z51:=Tryz.sizeOf236,
 v51:=Tryz.zeroValue236,
 t53:=Tryz.underlying235,
 a53:=Tryz.isAgg235,
 z53:=Tryz.sizeOf235,
 v53:=Tryz.zeroValue235,
 t70:=Tryz.underlying220,
 a70:=Tryz.isAgg220,
 z70:=Tryz.sizeOf220,
 v70:=Tryz.zeroValue220,
 t72:=Tryz.underlying223,
 a72:=Tryz.isAgg223,
 z72:=Tryz.sizeOf223,
 v72:=Tryz.zeroValue223,
 t75:=Tryz.underlying225,
 a75:=Tryz.isAgg225,
 z75:=Tryz.sizeOf225,
 v75:=Tryz.zeroValue225,
 t76:=Tryz.underlying226,
 a76:=Tryz.isAgg226,
 z76:=Tryz.sizeOf226,
 v76:=Tryz.zeroValue226,
 t109:=Tryz.underlying319,
 a109:=Tryz.isAgg319,
 z109:=Tryz.sizeOf319,
 v109:=Tryz.zeroValue319,
 t127:=Tryz.underlying288,
 a127:=Tryz.isAgg288,
 z127:=Tryz.sizeOf288,
 v127:=Tryz.zeroValue288,
 t146:=Tryz.underlying333,
 a146:=Tryz.isAgg333,
 z146:=Tryz.sizeOf333,
 v146:=Tryz.zeroValue333,
 t148:=Tryz.underlying335,
 a148:=Tryz.isAgg335,
 z148:=Tryz.sizeOf335,
 v148:=Tryz.zeroValue335,
 t164:=Tryz.underlying323,
 a164:=Tryz.isAgg323,
 z164:=Tryz.sizeOf323,
 v164:=Tryz.zeroValue323}
theorem ext105:Builder.Extra Tryz.prog i2_:={
 sizeBuilder:=by kernel_rfl,
 liesBuilder:=by kernel_rfl,
 t5:=Tryz.underlying5,
 a5:=Tryz.isAgg5,
 z5:=Tryz.sizeOf5,
 v5:=Tryz.zeroValue5,
 infoByte:=by kernel_rfl,
 cellsByte:=by kernel_rfl,
 sizeByte:=by kernel_rfl,
 neB5:=by decide}
end Go.Proofs.YtdjfjpeoddmamaaGreatDoor
namespace Go.Proofs.YtdjfjpeoddmamaaGreatDoor
open Go.Abs Go.RowKit
theorem tab_glob:(Tryz.prog).globalNamed "internal/strconv.uint64pow10" =some GT:=by kernel_rfl
theorem tab_is{w:World}(h:TabW w):Lib.TabIs Tryz.prog w "internal/strconv.uint64pow10" .u64 Lib.pow10Tab:=by
 obtain⟨t,z,h⟩:=h
 unfold Lib.TabIs World.var?
 rw[tab_glob]
 show(match w.heap[GT]? with|some (.cells cs _ _)=>some cs|_=>none)=_
 rw[h];rfl
theorem oy_(w:World)(k:Nat)(os:Array Obj):Below w.heap.size w (Sort.grow (w.drewN k) os):=
 ⟨rfl,rfl,rfl,by show w.heap.size≤(w.heap++os).size;simp,fun i hi=>by show(w.heap++os)[i]?=_;rw[Array.getElem?_append_left hi]⟩
theorem fs_ItoaA(n:Nat)(h:n≤9223372036854775807):FSpec Tryz.prog 172 [i64 n] (tx (Lib.decDigits n)):=by
 refine⟨aa_ (ad_ _) ab_,(mg_ 0 (by decide)).enters,fun M w vals hM hargs=>?_⟩
 obtain⟨x,xs,rfl,hx,hxs⟩:=hargs
 have hx':x= .int .i64 n:=hx
 have hxs':xs=[]:=hxs
 subst hx';subst hxs'
 have hc:=Any.strconv_Itoa lay171 (n:Int) (by omega) (by omega) w (tab_is hM.tab)
 refine Calls.mono hc fun e w' ⟨he,k,os,hw⟩=>⟨_,he,?_,?_⟩
 show Value.string _=Value.string _
 unfold Lib.itoa
 rw[if_neg (by omega),Int.toNat_natCast]
 rw[hw];exact oy_ w k os
theorem oi_(z:UInt8)(n:Nat)(h:n≤100):FSpec Tryz.prog 240 [tx [z],i64 n] (tx (List.replicate n z)):=by
 have en:∀(xs:Array Value) (w:World),(callFunc 240 xs).run Tryz.prog w= .ok (.enter 240 xs) w:=fun xs w=>hZ_ Tryz.func240 (c:=(Tryz.f240).body.get rfl) (by kernel_rfl) rfl xs w
 refine⟨aa_ (ad_ _) (aa_ (ad_ _) ab_),en,fun M w vals hM hargs=>?_⟩
 obtain⟨x,xs,rfl,hx,y,ys,rfl,hy,hxs⟩:=hargs
 have hx':x= .string ⟨[z].toArray⟩:=hx
 have hy':y= .int .i64 n:=hy
 have hxs':ys=[]:=hxs
 subst hx';subst hy';subst hxs'
 have hc:=Any.strings_Repeat lay105 ext105 ⟨[z].toArray⟩ n w (by omega) (by simp[ByteArray.size];omega)
 refine Calls.mono hc fun e w' ⟨he,hb⟩=>⟨_,he,?_,hb⟩
 show Value.string _=Value.string _
 congr 2
 have:∀k,Lib.repeatL [z] k=List.replicate k z:=fun k=>by
  induction k with
  |zero=>rfl
  |succ k ih=>rw[Lib.repeatL,ih,List.replicate_succ];rfl
 exact congrArg List.toArray (this n)
end Go.Proofs.YtdjfjpeoddmamaaGreatDoor
namespace Go.Proofs.YtdjfjpeoddmamaaGreatDoor
open Go.Abs
set_option maxRecDepth 20000
def pad9(n:Nat):List UInt8:=List.replicate (9- (Lib.decDigits n).length) 48++Lib.decDigits n
def txD:List Nat→List UInt8
 |[]=>[]
 |x::xs=>Lib.decDigits x++xs.flatMap pad9
def mtx(m:Nat):List UInt8:=if m=0 then [48] else txD (digs MB m).reverse
theorem mH_{l:List Nat}(h:l≠[])(x:Nat):txD (l++[x])=txD l++pad9 x:=by
 cases l with
 |nil=>exact absurd rfl h
 |cons a l=>simp[txD]
theorem lV_:∀k n,n< 10^ (k+1)→Lib.nDigits n≤k+1
 |0,n,h=>by rw[Lib.nDigits_small (by simpa using h)];omega
 |k+1,n,h=>by
  by_cases h1:n< 10
  rw[Lib.nDigits_small h1];omega
  rw[Lib.nDigits_big h1]
  have:n/ 10< 10^ (k+1):=by rw[Nat.pow_succ] at h;omega
  have:=lV_ k (n/ 10) this
  omega
theorem ms_{n:Nat}(h:n< 1000000000):(Lib.decDigits n).length≤9:=by
 rw[Lib.decDigits_length];exact lV_ 8 n h
theorem dec_ne(n:Nat):Lib.decDigits n≠[]:=by
 intro e
 have h1:=Lib.decDigits_length n
 rw[e] at h1
 have:=Lib.nDigits_pos n
 simp at h1;omega
theorem pad9_len{n:Nat}(h:n< 1000000000):(pad9 n).length=9:=by
 have:=ms_ h
 simp[pad9];omega
theorem txD_ne{l:List Nat}(h:l≠[]):txD l≠[]:=by
 cases l with
 |nil=>exact absurd rfl h
 |cons a l=>intro e;exact dec_ne a (List.append_eq_nil_iff.1 e).1
theorem oK_{l:List Nat}(h:∀x∈l,x< 1000000000):(txD l).length≤9* l.length:=by
 cases l with
 |nil=>simp[txD]
 |cons a l=>
  have h1:=ms_ (h a (List.mem_cons_self ..))
  have h2:∀l:List Nat,(∀x∈l,x< 1000000000)→(l.flatMap pad9).length=9* l.length:=by
   intro l
   induction l with
   |nil=>intro _;rfl
   |cons b l ih=>
    intro h
    rw[List.flatMap_cons,List.length_append,pad9_len (h b (List.mem_cons_self ..)),ih fun x hx=>h x (List.mem_cons_of_mem _ hx),List.length_cons]
    omega
  have h3:=h2 l fun x hx=>h x (List.mem_cons_of_mem _ hx)
  simp only[txD,List.length_append,List.length_cons]
  omega
def tf0(L:List Nat):Unit→AState
 |u=>⟨[(1,.lptr 1 0 0),(3,.lptr 2 0 0),(11,.clos 284 [] [.aptr [[.arr (dE L)]] 0 0])],[(1,some ⟨31,1,[[.arr (dE L)]]⟩),(2,some ⟨223,2,[bldC 2 0 none]⟩)],4,31⟩
theorem tf0_mk(L:List Nat)(u:Unit):tf0 L u=⟨[(1,.lptr 1 0 0),(3,.lptr 2 0 0),(11,.clos 284 [] [.aptr [[.arr (dE L)]] 0 0])],[(1,some ⟨31,1,[[.arr (dE L)]]⟩),(2,some ⟨223,2,[bldC 2 0 none]⟩)],4,31⟩:=rfl
def tf1(L:List Nat):List UInt8→AState
 |q=>⟨[(1,.lptr 1 0 0),(3,.lptr 2 0 0),(11,.clos 284 [] [.aptr [[.arr (dE L)]] 0 0])],[(1,some ⟨31,1,[[.arr (dE L)]]⟩),(2,some ⟨223,2,[bldC 2 3 (some q)]⟩),(3,some ⟨5,1,bE q⟩)],4,31⟩
theorem tf1_mk(L:List Nat)(q:List UInt8):tf1 L q=⟨[(1,.lptr 1 0 0),(3,.lptr 2 0 0),(11,.clos 284 [] [.aptr [[.arr (dE L)]] 0 0])],[(1,some ⟨31,1,[[.arr (dE L)]]⟩),(2,some ⟨223,2,[bldC 2 3 (some q)]⟩),(3,some ⟨5,1,bE q⟩)],4,31⟩:=rfl
def tfS(L:List Nat):Nat→AState
 |0=>tf0 L ()
 |k+1=>tf1 L (txD (L.reverse.take (k+1)))
theorem k2_(m:Nat)(h:bl m≤68719476736):FSpec Tryz.prog 168 [.agg [mag m]] (tx (mtx m)):=by
 have hz:=en_ m
 refine f_n Tryz.func168 ?_ ?_
 exact aa_ (aq_ (aa_ (aL_ m) ab_)) ab_
 refine r_z 2 ?_
 refine ac_ (r_c 2 (hz) ?_)
 refine an_ ?_
 refine am_ rfl (fun h1=>?_) (fun h1=>?_)
 have h2:m=0:=by simpa using h1
 subst h2
 refine r_z 1 ?_
 exact ai_ (t_e (ad_ _))
 have h2:m≠0:=by simpa using h1
 obtain⟨L,hL⟩:∃L,L=digs MB m:=⟨_,rfl⟩
 have hm:mag m= .arr (dE L):=by unfold mag;rw[hL]
 have hLl:L.length≤68719476736:=by
  rw[hL];exact Nat.le_trans (a1_ (b:=MB) (by decide) m) h
 have hLb:∀x∈L,x< 1000000000:=by rw[hL];exact bU_ (b:=MB) (by decide) m
 have hLn:L≠[]:=by rw[hL];exact fun e=>h2 ((cK_ (b:=MB) (by decide)).1 e)
 have hn1:=List.length_pos_iff.2 hLn
 rw[show mtx m=txD L.reverse by unfold mtx;rw[if_neg h2,hL]]
 clear hz
 rw[hm]
 refine ag_ ?_
 have hcl:Closed (.aptr [[.arr (dE L)]] 0 0):=cL_ (fun e he c hc=>by simp at he;subst he;simp at hc;subst hc;exact bu_ _)
 have hcl2:Closed (.clos 284 [] [.aptr [[.arr (dE L)]] 0 0]):=aR_ ab_ (aa_ hcl ab_)
 have hdl:(dE L).length=L.length:=f2_ L
 refine r_z 1 ?_
 refine ac_ (r_c 3 (ep_ L) ?_)
 refine an_ ?_
 refine aD_ (fun _:Unit=>tf1 L (txD L.reverse)) (fun _=>True) ?_ ?_
 refine ah_ (AWp.rangeFunc (α:=Nat) (γ:=Empty) L.length (tfS L) (fun k=>k) (fun k=>k≤L.length) (fun e=>nomatch e) (fun _ e=>nomatch e) 0 rfl (ek_ L (by omega)) rfl rfl ?_ (fun k=>by cases k <;> exact⟨rfl,rfl⟩) (fun e=>nomatch e) (Nat.zero_le _) rfl (fun _ h=>h) ?_ ?_ ?_ ?_ (fun _ e=>nomatch e))
 intro k xs hT
 unfold backT at hT
 split at hT
 cases hT;rfl
 cases hT
 show SEntT _ (tf0 L ())
 rw[tf0_mk]
 exact s_t [(1,1),(2,3)]
 exact aa_ hcl ab_
 ·intro l k xs hk hT
  unfold backT at hT
  split at hT
  rotate_left
  cases hT
  rename_i hlt
  cases hT
  obtain⟨x,hx⟩:∃x,x=L.getD (L.length- 1- k) 0:=⟨_,rfl⟩
  have hgx:L[L.length- 1- k]?=some x:=by
   rw[hx,List.getD_eq_getElem?_getD,List.getElem?_eq_getElem (by omega)];rfl
  have hxb:x< 1000000000:=hLb x (List.mem_of_getElem? hgx)
  have htk:L.reverse.take (k+1)=L.reverse.take k++[x]:=by
   rw[List.take_add_one,List.getElem?_reverse (by omega),hgx];rfl
  have hit:=fs_ItoaA x (by omega)
  have hdl9:=ms_ hxb
  rw[←hx]
  cases k with
  |zero=>
   show AWp _ _ _ _ ⟨setPs (tf0 L ()).fr _ _++ca_ (tf0 L ()).fr,_,_,_⟩
   show AWp _ _ _ _ ⟨[(13,u32 x),(12,i64 ((L.length- 1- 0:Nat):Int)),(1,.lptr 1 0 0),(3,.lptr 2 0 0),(11,.clos 284 [] [.aptr [[.arr (dE L)]] 0 0]),(1001,.lptr 1 0 0),(1003,.lptr 2 0 0),(1011,.clos 284 [] [.aptr [[.arr (dE L)]] 0 0])],[(1,some ⟨31,1,[[.arr (dE L)]]⟩),(2,some ⟨223,2,[bldC 2 0 none]⟩)],4,31⟩
   refine r_z 1 ?_
   refine r_m 1 ?_
   refine a_z ?_
   refine ah_ (r_c 4 (hit) ?_)
   refine a_z ?_
   refine ac_ (r_z 6 ?_)
   refine am_ rfl (fun h3=>?_) (fun h3=>?_)
   exact absurd h3 (by simp;omega)
   refine ag_ (r_m 2 ?_)
   refine a_1 ?_
   refine o_2 (.callB (s:=none) (j:=0) rfl rfl rfl rfl rfl rfl (fun _ h=>by cases h) (ea_ (Lib.decDigits x) (dec_ne x) (by omega))) ?_
   refine an_ ?_
   refine⟨0+1,⟨by omega,rfl⟩,?_⟩
   have e:txD (L.reverse.take (0+1))=Lib.decDigits x:=by rw[htk];simp[txD]
   show SEntT _ ⟨ca_ (tf1 L (txD (L.reverse.take (0+1)))).fr,(tf1 L (txD (L.reverse.take (0+1)))).hp,_,_⟩
   rw[e]
   show SEntT _ ⟨[(1001,.lptr 1 0 0),(1003,.lptr 2 0 0),(1011,.clos 284 [] [.aptr [[.arr (dE L)]] 0 0])],[(1,some ⟨31,1,[[.arr (dE L)]]⟩),(2,some ⟨223,2,[bldC 2 3 (some (Lib.decDigits x))]⟩),(3,some ⟨5,1,bE (Lib.decDigits x)⟩)],4,31⟩
   refine SEntT.to2 [(3,100017)] rfl rfl rfl au_r (fun hs=>?_) (fun hs=>?_)
   ·repeat' (first|exact aA_|refine aw_ rfl ?_ ?_)
    all_goals (first|(exact al_ hs hcl2)|exact au_c)
   ·repeat' (first|exact ao_|refine ak_ rfl rfl rfl rfl ?_ ?_)
    all_goals (first|exact au_e|(refine ae_ ?_;repeat' (first|exact ap_|refine af_ ?_ ?_)))
    all_goals (first|(exact al_ hs hcl2)|exact au_c)
  |succ k=>
   obtain⟨q,hq⟩:∃q,q=txD (L.reverse.take (k+1)):=⟨_,rfl⟩
   have hrn:L.reverse.take (k+1)≠[]:=by
    intro e
    have:=congrArg List.length e
    rw[List.length_take,List.length_reverse] at this
    simp only[List.length_nil] at this;omega
   have hql:q.length≤9* L.length:=by
    have h3:=oK_ (l:=L.reverse.take (k+1)) (fun y hy=>hLb y (List.mem_reverse.1 (List.mem_of_mem_take hy)))
    have h4:(L.reverse.take (k+1)).length≤L.length:=by simp;omega
    rw[hq];omega
   show AWp _ _ _ _ ⟨setPs (tf1 L (txD (L.reverse.take (k+1)))).fr _ _++ca_ (tf1 L (txD (L.reverse.take (k+1)))).fr,(tf1 L (txD (L.reverse.take (k+1)))).hp,4,_⟩
   rw[←hq]
   show AWp _ _ _ _ ⟨[(13,u32 x),(12,i64 ((L.length- 1- (k+1):Nat):Int)),(1,.lptr 1 0 0),(3,.lptr 2 0 0),(11,.clos 284 [] [.aptr [[.arr (dE L)]] 0 0]),(1001,.lptr 1 0 0),(1003,.lptr 2 0 0),(1011,.clos 284 [] [.aptr [[.arr (dE L)]] 0 0])],[(1,some ⟨31,1,[[.arr (dE L)]]⟩),(2,some ⟨223,2,[bldC 2 3 (some q)]⟩),(3,some ⟨5,1,bE q⟩)],4,31⟩
   refine r_z 1 ?_
   refine r_m 1 ?_
   refine a_z ?_
   refine ah_ (r_c 4 (hit) ?_)
   refine a_z ?_
   refine ac_ (r_z 6 ?_)
   refine am_ rfl (fun h3=>?_) (fun h3=>?_)
   rotate_left
   exact absurd (of_decide_eq_false h3) (by omega)
   have e9:((9:Int)- ((⟨(Lib.decDigits x).toArray⟩:ByteArray).size:Int))=((9- (Lib.decDigits x).length:Nat):Int):=by rw[gd_];omega
   have hrep:FSpec Tryz.prog 240 [tx [48],.v (.int .i64 ((9:Int)- ((⟨(Lib.decDigits x).toArray⟩:ByteArray).size:Int)))] (tx (List.replicate (9- (Lib.decDigits x).length) 48)):=by
    rw[e9];exact oi_ 48 (9- (Lib.decDigits x).length) (by omega)
   refine r_m 5 ?_
   refine o_0 (.move rfl) ?_
   refine o_0 (.builtinV (vs:=[_]) rfl rfl (fun _ _ _=>rfl)) ?_
   refine o_0 (.bin rfl rfl (f8_ (by rw[gd_];omega))) ?_
   refine c_s (hrep) ?_
   refine o_3 (.callB (s:=some _) rfl rfl rfl rfl rfl rfl (fun _ h=>by cases h;exact⟨rfl,by decide⟩) (dd_ q (List.replicate (9- (Lib.decDigits x).length) 48) (by simp;omega))) ?_
   refine an_ ?_
   refine r_m 2 ?_
   refine a_1 ?_
   refine o_3 (.callB (s:=some _) rfl rfl rfl rfl rfl rfl (fun _ h=>by cases h;exact⟨rfl,by decide⟩) (dd_ (q++List.replicate (9- (Lib.decDigits x).length) 48) (Lib.decDigits x) (by simp;omega))) ?_
   refine an_ ?_
   refine⟨k+1+1,⟨by omega,rfl⟩,?_⟩
   have e:txD (L.reverse.take (k+1+1))=q++List.replicate (9- (Lib.decDigits x).length) 48++Lib.decDigits x:=by
    rw[htk,mH_ hrn,←hq,List.append_assoc];rfl
   show SEntT _ ⟨ca_ (tf1 L (txD (L.reverse.take (k+1+1)))).fr,(tf1 L (txD (L.reverse.take (k+1+1)))).hp,_,_⟩
   rw[e]
   show SEntT _ ⟨[(1001,.lptr 1 0 0),(1003,.lptr 2 0 0),(1011,.clos 284 [] [.aptr [[.arr (dE L)]] 0 0])],[(1,some ⟨31,1,[[.arr (dE L)]]⟩),(2,some ⟨223,2,[bldC 2 3 (some (q++List.replicate (9- (Lib.decDigits x).length) 48++Lib.decDigits x))]⟩),(3,some ⟨5,1,bE (q++List.replicate (9- (Lib.decDigits x).length) 48++Lib.decDigits x)⟩)],4,31⟩
   refine SEntT.to2 [(3,100022)] rfl rfl rfl au_r (fun hs=>?_) (fun hs=>?_)
   ·repeat' (first|exact aA_|refine aw_ rfl ?_ ?_)
    all_goals (first|(exact al_ hs hcl2)|exact au_c)
   ·repeat' (first|exact ao_|refine ak_ rfl rfl rfl rfl ?_ ?_)
    all_goals (first|exact au_e|(refine ae_ ?_;repeat' (first|exact ap_|refine af_ ?_ ?_)))
    all_goals (first|(exact al_ hs hcl2)|exact au_c)
 ·intro k hk hT
  unfold backT at hT
  split at hT
  cases hT
  have hk1:k=L.length:=by
   rename_i hn;omega
  subst hk1
  obtain⟨j,hj⟩:∃j,L.length=j+1:=⟨L.length- 1,by omega⟩
  refine⟨(),trivial,?_⟩
  show SEnt (tfS L L.length) _
  rw[hj]
  show SEnt (tf1 L (txD (L.reverse.take (j+1)))) _
  rw[←hj,List.take_of_length_le (by simp)]
  exact SEnt.refl _
 rintro _ _
 rw[tf1_mk]
 have hne:txD L.reverse≠[]:=txD_ne (by simpa using hLn)
 refine s_r 2 ?_
 refine o_2 (.callD rfl rfl rfl rfl rfl rfl (by decide) (by first|assumption|simp) (h0_)) ?_
 refine a_z ?_
 exact ai_ (t_e (ad_ _))
theorem pp_(m:Nat):(mtx m).length≤9* bl m+1:=by
 unfold mtx
 split
 simp
 have h1:=oK_ (l:=(digs MB m).reverse) fun x hx=>bU_ (b:=MB) (by decide) m x (List.mem_reverse.1 hx)
 have h2:=a1_ (b:=MB) (by decide) m
 rw[List.length_reverse] at h1
 omega
def qtx(q:Rat):List UInt8:=((if q.num< 0 then [45] else [])++mtx q.num.natAbs)++(if q.den=1 then [] else 47::mtx q.den)
def quS(q:Rat):List UInt8→AState
 |l=>⟨[(1,.aptr [qC q] 0 0),(3,tx l)],[],2,24⟩
theorem iV_(q:Rat)(l:List UInt8):quS q l=⟨[(1,.aptr [qC q] 0 0),(3,tx l)],[],2,24⟩:=rfl
theorem p6_(q:Rat)(h:qs q≤68719476736):FSpec Tryz.prog 74 [.agg (qC q)] (tx (qtx q)):=by
 have hd1:=pp_ q.num.natAbs
 have hd2:=pp_ q.den
 have hden:1≤q.den:=q.den_pos
 have hq1:=b6_ q
 have hq2:=bT_ q
 refine f_n Tryz.func74 ?_ ?_
 exact aa_ (av_ q) ab_
 refine r_z 2 ?_
 refine AWp.ent (st':=⟨[(1,.aptr [qC q] 0 0)],[],2,24⟩) ?_ ?_
 exact s_e []
 refine r_c 5 (k2_ q.num.natAbs (Nat.le_trans (b6_ q) h)) ?_
 refine a_z ?_
 refine aS_ (quS q) (fun l=>l=(if q.num< 0 then [45] else [])++mtx q.num.natAbs) ?_ ?_
 refine r_z 3 ?_
 refine am_ rfl (fun h1=>?_) (fun h1=>?_)
 have h2:q.num< 0:=by simpa using h1
 refine r_m 3 ?_
 refine a_1 ?_
 refine o_0 (.bin rfl rfl (cE_ (l:=[45]) (by simp;omega))) ?_
 refine a_z ?_
 refine⟨_,by rw[if_pos h2],?_⟩
 rw[iV_]
 refine as_ [] rfl rfl rfl au_r (fun hs=>?_) (fun hs=>?_)
 ·repeat' (first|exact aA_|refine aw_ rfl ?_ ?_)
  all_goals (first|(exact al_ hs (aj_ (aK_ q)))|exact au_c)
 ·repeat' (first|exact ao_|refine ak_ rfl rfl rfl rfl ?_ ?_)
  all_goals (first|exact au_e|(refine ae_ ?_;repeat' (first|exact ap_|refine af_ ?_ ?_)))
  all_goals (first|(exact al_ hs (aj_ (aK_ q)))|exact au_c)
 have h2:¬q.num< 0:=by simpa using h1
 refine ag_ ⟨mtx q.num.natAbs,by rw[if_neg h2];rfl,?_⟩
 rw[iV_]
 refine as_ [] rfl rfl rfl au_r (fun hs=>?_) (fun hs=>?_)
 ·repeat' (first|exact aA_|refine aw_ rfl ?_ ?_)
  all_goals (first|(exact al_ hs (aj_ (aK_ q)))|exact au_c)
 ·repeat' (first|exact ao_|refine ak_ rfl rfl rfl rfl ?_ ?_)
  all_goals (first|exact au_e|(refine ae_ ?_;repeat' (first|exact ap_|refine af_ ?_ ?_)))
  all_goals (first|(exact al_ hs (aj_ (aK_ q)))|exact au_c)
 rintro l hl
 have hll:l.length≤618475290626:=by rw[hl];split <;> simp <;> omega
 rw[iV_]
 refine aS_ (quS q) (fun l=>l=qtx q) ?_ ?_
 refine r_c 4 (en_ (q.den- 1)) ?_
 refine a_z ?_
 refine am_ rfl (fun h1=>?_) (fun h1=>?_)
 have h2:¬q.den=1:=by
  intro e;rw[e] at h1;simp at h1
 refine r_m 7 ?_
 refine c_s (ci_ q (by omega)) ?_
 refine c_s (k2_ q.den (Nat.le_trans (bT_ q) h)) ?_
 refine o_0 (.bin rfl rfl (cE_ (l:=[47]) (by simp;omega))) ?_
 refine o_0 (.bin rfl rfl (cE_ (by simp;omega))) ?_
 refine a_z ?_
 refine⟨_,by unfold qtx;rw[if_neg h2,←hl],?_⟩
 rw[iV_]
 refine as_ [] rfl rfl rfl au_r (fun hs=>?_) (fun hs=>?_)
 ·repeat' (first|exact aA_|refine aw_ rfl ?_ ?_)
  all_goals (first|(exact al_ hs (aj_ (aK_ q)))|exact au_c)
 ·repeat' (first|exact ao_|refine ak_ rfl rfl rfl rfl ?_ ?_)
  all_goals (first|exact au_e|(refine ae_ ?_;repeat' (first|exact ap_|refine af_ ?_ ?_)))
  all_goals (first|(exact al_ hs (aj_ (aK_ q)))|exact au_c)
 have h2:q.den=1:=by
  have h3:q.den- 1=0:=by simpa using h1
  omega
 refine ag_ ⟨l,by unfold qtx;rw[if_pos h2,←hl,List.append_nil],?_⟩
 rw[iV_]
 refine as_ [] rfl rfl rfl au_r (fun hs=>?_) (fun hs=>?_)
 ·repeat' (first|exact aA_|refine aw_ rfl ?_ ?_)
  all_goals (first|(exact al_ hs (aj_ (aK_ q)))|exact au_c)
 ·repeat' (first|exact ao_|refine ak_ rfl rfl rfl rfl ?_ ?_)
  all_goals (first|exact au_e|(refine ae_ ?_;repeat' (first|exact ap_|refine af_ ?_ ?_)))
  all_goals (first|(exact al_ hs (aj_ (aK_ q)))|exact au_c)
 rintro l rfl
 rw[iV_]
 refine r_z 2 ?_
 exact ai_ (t_e (ad_ _))
theorem pad9_pd{x:Nat}(h:x< 1000000000):pad9 x=pd 9 x:=by
 by_cases h0:x=0
 subst h0;decide+kernel
 rw[pd_dec 9 x (by omega) h];rfl
theorem oL_:∀(n m:Nat),m≤n→0< m→txD (digs MB m).reverse=Lib.decDigits m
 |0,m,h,h0=>by omega
 |n+1,m,h,h0=>by
  have hb:MB=1000000000:=rfl
  rw[ct_ (by decide) h0,List.reverse_cons]
  by_cases hm:m< MB
  rw[Nat.div_eq_of_lt hm,bl_,Nat.mod_eq_of_lt hm];simp[txD]
  have hd:0< m/ MB:=Nat.div_pos (by omega) (by decide)
  have hne:(digs MB (m/ MB)).reverse≠[]:=fun e=>by
   have:=(cK_ (b:=MB) (by decide)).1 (List.reverse_eq_nil_iff.1 e)
   omega
  have hlt:m % MB< 1000000000:=Nat.mod_lt m (by decide)
  rw[mH_ hne,oL_ n (m/ MB) (by have:=Nat.div_lt_self h0 (by decide:1< MB);omega) hd,pad9_pd hlt,←lo_ 9 (m/ MB) (m % MB) hd hlt]
  congr 1
  show m/ 1000000000* 1000000000+m % 1000000000=m
  omega
theorem pq_(m:Nat):mtx m=Lib.decDigits m:=by
 unfold mtx
 split
 ·rename_i h;subst h;decide+kernel
 exact oL_ m m (Nat.le_refl _) (by omega)
def ztx(z:Int):List UInt8:=(if z< 0 then [45] else [])++Lib.decDigits z.natAbs
theorem qtx_eq(q:Rat):qtx q=ztx q.num++(if q.den=1 then [] else 47::Lib.decDigits q.den):=by
 unfold qtx ztx
 rw[pq_,pq_]
theorem jg_(n:Nat):(Lib.decDigits n).length≤bl n+1:=by
 rw[Lib.decDigits_length]
 have h:n< 10^ (bl n+1):=Nat.lt_of_lt_of_le (lt_bl n) (Nat.le_trans (Nat.pow_le_pow_left (by decide:2≤10) _) (Nat.pow_le_pow_right (by decide) (by omega)))
 exact lV_ (bl n) n h
theorem first_text{c:UInt8}{l:List UInt8}:∀w,(Instr.index 9 (.string ⟨(c::l).toArray⟩) (.int .i64 0)).run Tryz.prog w= .ok (.int .u8 c.toNat) w:=fun w=>by
 simp[Instr.index,asIntOf,run_underlying dr_,go_sem]
 rfl
theorem oR_(c:UInt8)(l:List UInt8):∀w,(Instr.sliceAt 9 (.string ⟨(c::l).toArray⟩) (some (.int .i64 1)) none none).run Tryz.prog w= .ok (.string ⟨l.toArray⟩) w:=fun w=>by
 have b1:∀(i y:Nat) (c:BoundsCode),i≤y→(Instr.sliceBound (.int .i64 (i:Int)) y c).run Tryz.prog w= .ok i w:=fun i y c hi=>ch_ hi c w
 have e:(⟨(c::l).toArray⟩:ByteArray).extract 1 (⟨(c::l).toArray⟩:ByteArray).size=⟨l.toArray⟩:=by
  apply ByteArray.ext;simp[ByteArray.size]
 have hr:(Instr.slice 9 (.string ⟨(c::l).toArray⟩) (some (.int .i64 ((1:Nat):Int))) none none).run Tryz.prog w= .ok (.string ⟨l.toArray⟩) w:=by
  have hs:1≤(⟨(c::l).toArray⟩:ByteArray).size:=by simp[ByteArray.size]
  have b2:=b1 1 (⟨(c::l).toArray⟩:ByteArray).size .sliceB hs
  rw[show((1:Nat):Int)=1 from rfl] at b2
  simp[Instr.slice,run_underlying dr_,Instr.sliceBounds,b2,Result.andThen,e]
 unfold Instr.sliceAt
 rw[Sem.run_bind,run_underlying dr_]
 exact hr
theorem dig_text(d:Nat)(zl zh:Int)(hd:d< 10)(el:zl=(d:Int))(eh:zh=(d:Int)+1):∀w,(Instr.sliceAt 9 (.string ⟨#[48,49,50,51,52,53,54,55,56,57]⟩) (some (.int .i64 zl)) (some (.int .i64 zh)) none).run Tryz.prog w= .ok (.string ⟨[UInt8.ofNat (48+d)].toArray⟩) w:=fun w=>by
 rw[j6_ _ d (d+1) zl zh el (by omega) (by omega) (by exact Nat.le_trans (m:=10) (by omega) (by decide)) w]
 have key:∀d,d< 10→(ByteArray.mk #[48,49,50,51,52,53,54,55,56,57]).extract d (d+1)=⟨[UInt8.ofNat (48+d)].toArray⟩:=by decide
 rw[key d hd]
theorem zd_sm{m:Nat}(h0:0< m)(h:m< 32768):zd m=[m]:=by
 have hb:UB=32768:=rfl
 unfold zd
 rw[ct_ (by decide) h0,Nat.mod_eq_of_lt (by omega),Nat.div_eq_of_lt (by omega),bl_];rfl
def ztO(z:Int)(n:Nat):Nat→AState
 |k=>⟨[(1,.aptr [zZ z] 0 0),(3,tx (pd (4* k) n)),(4,.arr (iE (zd (n/ 10^ (4* k)))))],[],2,51⟩
theorem ztO_mk(z:Int)(n:Nat)(k:Nat):ztO z n k=⟨[(1,.aptr [zZ z] 0 0),(3,tx (pd (4* k) n)),(4,.arr (iE (zd (n/ 10^ (4* k)))))],[],2,51⟩:=rfl
def ztI(z:Int)(r B:Nat)(T:List UInt8):Nat→AState
 |i=>⟨[(1,.aptr [zZ z] 0 0),(3,tx (pd i r++T)),(5,.arr (iE (zd B))),(7,i64 ((r/ 10^ i:Nat):Int)),(8,i64 i)],[],2,51⟩
theorem mC_(z:Int)(r B:Nat)(T:List UInt8)(i:Nat):ztI z r B T i=⟨[(1,.aptr [zZ z] 0 0),(3,tx (pd i r++T)),(5,.arr (iE (zd B))),(7,i64 ((r/ 10^ i:Nat):Int)),(8,i64 i)],[],2,51⟩:=rfl
def ztD(z:Int):List UInt8→AState
 |T=>⟨[(1,.aptr [zZ z] 0 0),(3,tx T)],[],2,51⟩
theorem ke_(z:Int)(T:List UInt8):ztD z T=⟨[(1,.aptr [zZ z] 0 0),(3,tx T)],[],2,51⟩:=rfl
theorem no_(z:Int)(h:bl z.natAbs≤68719476736):FSpec Tryz.prog 203 [.agg (zZ z)] (tx (ztx z)):=by
 have hcz:Closed (.aptr [zZ z] 0 0):=aj_ (cc_ z)
 refine f_n Tryz.func203 ?_ ?_
 exact aa_ (a0_ z) ab_
 refine r_z 2 ?_
 refine AWp.ent (st':=⟨[(1,.aptr [zZ z] 0 0)],[],2,51⟩) ?_ ?_
 exact s_e []
 by_cases h0:z=0
 subst h0
 refine ac_ (s_r 3 ?_)
 refine a_2 ?_
 refine o_0 (.bin rfl rfl (vT a8_ ((by decide)))) ?_
 refine an_ ?_
 refine am_ rfl (fun h1=>?_) (fun h1=>?_)
 refine r_z 1 ?_
 exact ai_ (aP_ rfl (by rw[show ztx 0=[48] by unfold ztx;rw[Int.natAbs_zero,Lib.decDigits_one (by decide)];rfl];rfl) (ad_ _))
 cases h1
 refine ac_ (s_r 3 ?_)
 refine a_2 ?_
 refine o_0 (.bin rfl rfl (vF a8_ ((by unfold sgZ;rw[if_neg h0];split <;> rfl)))) ?_
 refine an_ ?_
 refine cF (ag_ (r_z 1 ?_))
 refine r_z 3 ?_
 obtain⟨n,hn⟩:∃n,n=z.natAbs:=⟨_,rfl⟩
 have hn0:0< n:=by omega
 rw[←hn] at h
 have hzd:=bp_ n
 have hdl:=a1_ (b:=UB) (by decide) n
 refine aS_ (ztD z) (fun T=> ∃k,T=pd k n∧n< 10^ k∧k≤4* (bl n+1)) ?_ ?_
 refine ah_ (ax_ (ztO z n) (fun k=>n/ 10^ (4* k)) (fun k=>k=0∨0< n/ 10^ (4* (k- 1))) 0 (.inl rfl) ?_ ?_)
 simp only[ztO_mk]
 have e:n/ 10^ (4* 0)=n:=by simp
 rw[e,hn]
 exact s_f []
 rintro k hk
 simp only[ztO_mk]
 obtain⟨A,hA⟩:∃A,A=n/ 10^ (4* k):=⟨_,rfl⟩
 have hk4:4* k≤bl n+4:=by
  rcases hk with hk|hk
  omega
  have h1:10^ (4* (k- 1))≤n:=by
   apply Nat.le_of_not_lt
   intro hlt;rw[Nat.div_eq_of_lt hlt] at hk;omega
  have h2:=lt_bl n
  have h3:2^ (4* (k- 1))≤10^ (4* (k- 1)):=Nat.pow_le_pow_left (by decide) _
  have h4:4* (k- 1)< bl n:=(Nat.pow_lt_pow_iff_right (a:=2) (by decide)).1 (Nat.lt_of_le_of_lt (Nat.le_trans h3 h1) h2)
  omega
 rw[←hA]
 have hAb:bl A≤68719476736:=Nat.le_trans (bP_ (by rw[hA];exact Nat.div_le_self _ _)) h
 by_cases hA0:A=0
 have hz:(zd A).length=0:=by rw[hA0,gb_];rfl
 refine ac_ (q_z 3 ?_)
 refine cF (au_ ⟨pd (4* k) n,⟨4* k,rfl,?_,by omega⟩,?_⟩)
 rw[hA0] at hA
 exact(Nat.div_eq_zero_iff.1 hA.symm).resolve_left (by have:=Nat.one_le_pow (4* k) 10 (by decide);omega)
 simp only[ke_]
 exact s_f []
 have hz:0< (zd A).length:=List.length_pos_iff.2 fun e=>hA0 (zd_eq_nil.1 e)
 refine ac_ (q_z 3 ?_)
 refine cT (ag_ (ah_ ?_))
 have hov:=g0_ A 10000 (by decide) (by omega) (by decide)
 rw[zd_sm (by decide) (by decide:10000< 32768)] at hov
 obtain⟨r,hr⟩:∃r,r=A % 10000:=⟨_,rfl⟩
 obtain⟨B,hB⟩:∃B,B=A/ 10000:=⟨_,rfl⟩
 rw[←hr,←hB] at hov
 have hr4:r< 10000:=by rw[hr];exact Nat.mod_lt _ (by decide)
 have hzr:(zd r).length≤4:=by
  rw[bp_];exact co_ (b:=UB) (by decide) (k:=4) (Nat.lt_trans hr4 (by decide))
 have hsh:=jL_ (zd r) hzr (zd_lt r)
 rw[hv_zd] at hsh
 obtain⟨T,hT⟩:∃T,T=pd (4* k) n:=⟨_,rfl⟩
 have hTl:T.length=4* k:=by rw[hT,kD_]
 rw[←hT]
 refine s_r 8 ?_
 refine a_2 ?_
 refine o_1 (.callS1 rfl rfl rfl (.keep (.shut rfl d_n (.nil))) rfl (hov)) ?_
 refine a_z ?_
 refine r_c 3 (hsh) ?_
 refine a_z ?_
 refine ac_ (r_z 1 ?_)
 refine aD_ (ztI z r B T) (fun i=>i=4) ?_ ?_
 refine ah_ (ax_ (ztI z r B T) (fun i=>4- i) (fun i=>i≤4) 0 (by decide) ?_ ?_)
 simp only[mC_]
 have e:((r/ 10^ 0:Nat):Int)=r:=by simp
 rw[e]
 exact s_f []
 rintro i hi
 simp only[mC_]
 by_cases h4:i< 4
 refine ac_ (q_z 2 ?_)
 refine cT (ag_ (ac_ (ah_ ?_)))
 obtain⟨c,hc⟩:∃c,c=r/ 10^ i:=⟨_,rfl⟩
 rw[←hc]
 have hcr:c≤r:=by rw[hc];exact Nat.div_le_self _ _
 have hsz:[UInt8.ofNat (48+c % 10)].length+(pd i r++T).length≤9223372036854775807:=by
  rw[List.length_append,kD_,hTl];simp only[List.length_cons,List.length_nil];omega
 refine s_r 9 ?_
 refine a_5 ?_
 refine o_0 (.slice_v rfl rfl rfl rfl (dig_text (c % 10) _ _ (by omega) (by omega) (by omega))) ?_
 refine a_1 ?_
 refine o_0 (.bin rfl rfl (cE_ (l:=[UInt8.ofNat (48+c % 10)]) (m:=pd i r++T) hsz)) ?_
 refine a_z ?_
 refine r_m 3 ?_
 refine a_z ?_
 refine r_m 3 ?_
 refine a_z ?_
 refine⟨i+1,by omega,h4,?_⟩
 have e1:pd (i+1) r++T=[UInt8.ofNat (48+c % 10)]++(pd i r++T):=by rw[pd_front,←hc];rfl
 have e2:((r/ 10^ (i+1):Nat):Int)=(c:Int) / 10:=by rw[Nat.pow_succ,←Nat.div_div_eq_div_mul,←hc];omega
 show SEnt _ ⟨[(1,.aptr [zZ z] 0 0),(3,tx (pd (i+1) r++T)),(5,.arr (iE (zd B))),(7,i64 ((r/ 10^ (i+1):Nat):Int)),(8,i64 ((i+1:Nat):Int))],[],2,_⟩
 rw[e1,e2]
 exact s_f []
 refine ac_ (q_z 2 ?_)
 refine cF (au_ ⟨i,by omega,?_⟩)
 simp only[mC_]
 exact s_f []
 rintro _ rfl
 rw[mC_]
 refine r_m 2 ?_
 refine a_z ?_
 have e0:n/ 10^ (4* (k+1))=B:=by rw[hB,hA,Nat.div_div_eq_div_mul,show 4* (k+1)=4* k+4 by omega,Nat.pow_add]
 refine⟨k+1,?_,.inr ?_,?_⟩
 show n/ 10^ (4* (k+1))< A
 rw[e0];omega
 show 0< n/ 10^ (4* (k+1- 1))
 rw[Nat.add_sub_cancel,←hA];omega
 have e1:pd (4* (k+1)) n=pd 4 r++T:=by
  rw[show 4* (k+1)=4+4* k by omega,pd_add,←hA,←hT,hr]
  congr 1
  exact(pd_mod 4 A).symm
 show SEnt _ ⟨[(1,.aptr [zZ z] 0 0),(3,tx (pd (4* (k+1)) n)),(4,.arr (iE (zd (n/ 10^ (4* (k+1))))))],[],2,_⟩
 rw[e0,e1]
 exact s_f []
 rintro T ⟨K,hT,hK,hKl⟩
 have hdz:dropZ T=Lib.decDigits n:=by rw[hT];exact nB_ K n hn0 hK
 clear hT hK hKl
 simp only[ke_]
 refine aS_ (ztD z) (fun T=>T=Lib.decDigits n) ?_ ?_
 refine ah_ (ax_ (ztD z) (fun T=>T.length) (fun T=>dropZ T=Lib.decDigits n) T hdz ?_ ?_)
 simp only[ke_]
 exact s_f []
 intro T hT
 simp only[ke_]
 cases T with
 |nil=>exact absurd hT.symm (gM_ n)
 |cons c T=>
  rw[dropZ] at hT
  by_cases hc:c=48
  rw[if_pos hc] at hT
  refine ac_ (s_r 3 ?_)
  refine a_1 ?_
  refine o_0 (.index_s rfl rfl first_text) ?_
  refine o_0 (.bin rfl rfl (vT a8_ ((by rw[hc];rfl)))) ?_
  refine an_ ?_
  refine cT (ag_ (ah_ (r_m 3 ?_)))
  refine a_1 ?_
  refine o_0 (.slice_v rfl rfl rfl rfl (oR_ c T)) ?_
  refine a_z ?_
  refine⟨T,by simp,hT,?_⟩
  show SEnt _ ⟨[(1,.aptr [zZ z] 0 0),(3,tx T)],[],2,_⟩
  exact s_f []
  rw[if_neg hc] at hT
  have hne:(((c.toNat:Nat):Int)==48)=false:=by
   rw[beq_eq_false_iff_ne]
   intro e
   exact hc (UInt8.toNat_inj.1 (by have:c.toNat=48:=by omega
                                   exact this))
  refine ac_ (s_r 3 ?_)
  refine a_1 ?_
  refine o_0 (.index_s rfl rfl first_text) ?_
  refine o_0 (.bin rfl rfl (vF a8_ (hne))) ?_
  refine an_ ?_
  refine cF (au_ ⟨c::T,hT,?_⟩)
  show SEnt _ ⟨[(1,.aptr [zZ z] 0 0),(3,tx (c::T))],[],2,_⟩
  exact s_f []
 rintro T rfl
 simp only[ke_]
 have hdl2:=jg_ n
 by_cases hneg:z< 0
 refine ac_ (s_r 3 ?_)
 refine a_2 ?_
 refine o_0 (.bin rfl rfl (vT c8_ ((by unfold sgZ;rw[if_neg h0,if_pos hneg];rfl)))) ?_
 refine an_ ?_
 refine cT (s_r 3 ?_)
 refine a_1 ?_
 refine o_0 (.bin rfl rfl (cE_ (l:=[45]) (by simp;omega))) ?_
 refine a_z ?_
 exact ai_ (aP_ rfl (by unfold ztx;rw[if_pos hneg,hn]) (ad_ _))
 refine ac_ (s_r 3 ?_)
 refine a_2 ?_
 refine o_0 (.bin rfl rfl (vF c8_ ((by unfold sgZ;rw[if_neg h0,if_neg hneg];rfl)))) ?_
 refine an_ ?_
 refine cF (ag_ (r_z 2 ?_))
 exact ai_ (aP_ rfl (by unfold ztx;rw[if_neg hneg,hn];rfl) (ad_ _))
theorem dec_one{n:Nat}(h:Lib.decDigits n=[49]):n=1:=by
 by_cases h1:n< 10
 rw[Lib.decDigits_one h1] at h
 have:∀n,n< 10→[UInt8.ofNat (48+n)]=[49]→n=1:=by decide
 exact this n h1 h
 have h2:=Lib.decDigits_length n
 rw[h,Lib.nDigits_big h1] at h2
 have:=Lib.nDigits_pos (n/ 10)
 simp at h2;omega
theorem oB_(n:Nat):ztx (n:Int)=Lib.decDigits n:=by
 unfold ztx
 rw[if_neg (by omega),Int.natAbs_natCast];rfl
theorem oC_(z:Int):(ztx z).length≤bl z.natAbs+2:=by
 have:=jg_ z.natAbs
 unfold ztx
 split <;> simp <;> omega
theorem fs_rText(x:RQ)(hx:rok x)(h:qs x.1≤68719476736):FSpec Tryz.prog 116 [.agg (rC x)] (tx (qtx x.1)):=by
 have hn:=Nat.le_trans (b6_ x.1) h
 have hd:=Nat.le_trans (bT_ x.1) h
 have zn:=no_ x.1.num hn
 have zd:=no_ (x.1.den:Int) (by rw[Int.natAbs_natCast];exact hd)
 have ln:=oC_ x.1.num
 have ld:=oC_ (x.1.den:Int)
 rw[Int.natAbs_natCast] at ld
 have hcx:Closed (.aptr [rC x] 0 0):=aj_ (bi_ x)
 refine f_n Tryz.func116 ?_ ?_
 exact aa_ (a6_ x) ab_
 refine r_z 2 ?_
 by_cases h1:x.1.den=1
 have e1:decide (ztx (x.1.den:Int)=[49])=true:=decide_eq_true (by rw[h1];decide+kernel)
 refine ac_ (r_c 4 (cS_ x hx) ?_)
 refine c_s (zd) ?_
 refine o_0 (.bin rfl rfl (vT di_ e1)) ?_
 refine an_ ?_
 refine cT (r_c 4 (zn) ?_)
 refine a_z ?_
 exact ai_ (aP_ rfl (by rw[qtx_eq,if_pos h1,List.append_nil]) (ad_ _))
 have e1:decide (ztx (x.1.den:Int)=[49])=false:=decide_eq_false fun e=>h1 (dec_one (by rw[←oB_];exact e))
 refine ac_ (r_c 4 (cS_ x hx) ?_)
 refine c_s (zd) ?_
 refine o_0 (.bin rfl rfl (vF di_ e1)) ?_
 refine an_ ?_
 refine cF (ag_ (ac_ (r_d hmix 9 ?_)))
 refine c_s (zn) ?_
 refine o_0 (.bin rfl rfl (cE_ (m:=[47]) (by simp;omega))) ?_
 refine c_s (cS_ x hx) ?_
 refine c_s (zd) ?_
 refine o_0 (.bin rfl rfl (cE_ (by simp;omega))) ?_
 refine a_1 ?_
 refine an_ (n_k ?_)
 exact ai_ (aP_ rfl (by rw[qtx_eq,if_neg h1,oB_,List.append_assoc];rfl) (ad_ _))
theorem g3_(q:Rat)(x:RQ)(hx:rok x)(h:x.1=q)(hs:qs q≤68719476736):FSpec Tryz.prog 33 [.agg (qC q),.agg (rC x)] (bln true):=by
 subst h
 have e1:decide (qtx x.1=qtx x.1)=true:=decide_eq_true rfl
 refine f_n Tryz.func33 ?_ ?_
 exact aa_ (av_ _) (aa_ (a6_ x) ab_)
 refine r_z 3 ?_
 refine ac_ (r_d hmix 6 ?_)
 refine c_s (p6_ x.1 hs) ?_
 refine c_s (fs_rText x hx hs) ?_
 refine o_0 (.bin rfl rfl (vT di_ e1)) ?_
 refine a_1 ?_
 refine an_ (n_k ?_)
 exact ai_ (t_e (ad_ _))
def vR(x:List RQ):List Rat:=x.map (·.1)
def okX(x:List RQ):Prop:=∀y∈x,rok y
def trimR(x:List RQ):List RQ:=x.take (trimQ (vR x)).length
theorem vR_trim(x:List RQ):vR (trimR x)=trimQ (vR x):=by
 unfold trimR
 rw[vR,List.map_take]
 exact(hc_ (vR x)).symm
@[simp] theorem cP_ (x:List RQ):(vR x).length=x.length:=by simp[vR]
def lkS(l:List Rat)(x:List RQ):Nat→AState
 |i=>⟨[(0,.arr (pE l)),(1,.arr (rE x)),(5,i64 i)],[],1,27⟩
theorem lkS_mk(l:List Rat)(x:List RQ)(i:Nat):lkS l x i=⟨[(0,.arr (pE l)),(1,.arr (rE x)),(5,i64 i)],[],1,27⟩:=rfl
theorem fs_Alike(l:List Rat)(x:List RQ)(hx:okX x)(h:vR x=l)(hs:bdL l 68719476736)(hl:l.length≤1099511627776):FSpec Tryz.prog 113 [.arr (pE l),.arr (rE x)] (bln true):=by
 have hxl:x.length=l.length:=by rw[←h];simp
 refine f_n Tryz.func113 ?_ ?_
 exact aa_ (ar_ l) (aa_ (a7_ x) ab_)
 refine r_z 1 ?_
 refine ac_ (s_r 5 ?_)
 refine a_4 ?_
 refine o_0 (.bin rfl rfl (vF by_ ((by rw[hxl];simp)))) ?_
 refine an_ ?_
 refine cF (ag_ (ac_ (r_z 1 ?_)))
 refine aD_ (fun _:Unit=>⟨[(0,.arr (pE l)),(1,.arr (rE x))],[],1,27⟩) (fun _=>True) ?_ ?_
 refine ah_ (ax_ (lkS l x) (fun i=>l.length- i) (fun i=>i≤l.length) 0 (Nat.zero_le _) ?_ ?_)
 simp only[lkS_mk]
 exact s_e []
 rintro i hi
 simp only[lkS_mk]
 by_cases hlt:i< l.length
 obtain⟨y,hy⟩:∃y,x[i]?=some y:=⟨_,List.getElem?_eq_getElem (by omega)⟩
 have hq:l[i]?=some y.1:=by rw[←h,vR,List.getElem?_map,hy];rfl
 have g1:(pE l)[((i:Nat):Int).toNat]?=some (qC y.1):=bC_ hq
 have g2:(rE x)[((i:Nat):Int).toNat]?=some (rC y):=et_ hy
 refine ac_ (q_z 4 ?_)
 refine cT (ag_ (ac_ (ah_ (ac_ (r_d hmix 10 ?_)))))
 refine a_2 ?_
 refine i_x g1 ?_
 refine l_x g1 ?_
 refine a_2 ?_
 refine i_x g2 ?_
 refine l_x g2 ?_
 refine c_s (g3_ y.1 y (hx y (List.mem_of_getElem? hy)) rfl (hs _ (List.mem_of_getElem? hq))) ?_
 refine a_1 ?_
 refine an_ (n_k ?_)
 refine cF (ag_ (r_m 3 ?_))
 refine a_z ?_
 refine⟨i+1,by omega,hlt,?_⟩
 exact s_e []
 refine ac_ (q_z 4 ?_)
 refine cF (au_ ⟨(),trivial,?_⟩)
 exact s_e []
 rintro _ _
 refine r_z 1 ?_
 exact ai_ (t_e (ad_ _))
def rtmS(x:List RQ):Nat→AState
 |n=>⟨[(0,.arr (rE x)),(3,i64 n)],[],1,23⟩
theorem hq_(x:List RQ)(n:Nat):rtmS x n=⟨[(0,.arr (rE x)),(3,i64 n)],[],1,23⟩:=rfl
theorem e7_(x:List RQ)(hl:x.length≤1099511627776):FSpec Tryz.prog 115 [.arr (rE x)] (.arr (rE (trimR x))):=by
 obtain⟨v,hv⟩:∃v,v=vR x:=⟨_,rfl⟩
 have hvl:v.length=x.length:=by rw[hv];simp
 refine f_n Tryz.func115 ?_ ?_
 exact aa_ (a7_ x) ab_
 refine r_z 1 ?_
 refine r_z 3 ?_
 refine aS_ (rtmS x) (fun n=>n≤v.length∧trimQ v=v.take n) ?_ ?_
 refine ah_ (ax_ (rtmS x) (fun n=>n) (fun n=>n≤v.length∧trimQ v=trimQ (v.take n)) v.length ⟨Nat.le_refl _,by rw[List.take_length]⟩ ?_ ?_)
 simp only[hq_]
 rw[hvl]
 exact s_e []
 rintro n ⟨hn,ht⟩
 simp only[hq_]
 cases n with
 |zero=>
  refine ac_ (s_r 11 ?_)
  refine a_1 ?_
  refine o_0 (.bin rfl rfl (vF dT_ ((by simp)))) ?_
  refine a_z ?_
  refine cF (au_ ⟨0,⟨Nat.zero_le _,?_⟩,?_⟩)
  rw[ht];rfl
  simp only[hq_]
  exact s_e []
 |succ n=>
  obtain⟨y,hy⟩:∃y,x[n]?=some y:=⟨_,List.getElem?_eq_getElem (by omega)⟩
  have hq:v[n]?=some y.1:=by rw[hv,vR,List.getElem?_map,hy];rfl
  have g2:(rE x)[(((n+1:Nat):Int)- 1).toNat]?=some (rC y):=by
   rw[show(((n+1:Nat):Int)- 1).toNat=n by omega];exact et_ hy
  have hs:trimQ (v.take (n+1))=if y.1=0 then trimQ (v.take n) else v.take (n+1):=by
   rw[cw_ hq,e0_]
  by_cases h0:y.1=0
  refine ac_ (s_r 11 ?_)
  refine d_6 ?_
  first|refine ay_ rfl rfl rfl (.index_l rfl rfl (by omega) (by omega) te_66.h) rfl rfl ?_|refine ay_ rfl rfl rfl (.index_a rfl rfl (by omega) g2 rfl te_66.h) rfl rfl ?_
  first|refine ay_ rfl rfl rfl (.load_l rfl rfl g2 tg_42.h ts_42.h (nle rfl)) rfl rfl ?_|refine ay_ rfl rfl rfl (.load_a rfl g2 tg_42.h ts_42.h (nle rfl)) rfl rfl ?_
  refine c_s (ng_ y) ?_
  refine ay_ rfl rfl rfl (.bin rfl rfl (vT a8_ ((by rw[h0];decide)))) rfl rfl ?_
  refine a_z ?_
  refine cT (ag_ (ah_ (r_m 3 ?_)))
  refine a_z ?_
  refine⟨n,Nat.lt_succ_self n,⟨by omega,?_⟩,?_⟩
  rw[ht,hs,if_pos h0]
  exact s_e []
  have hz:(sgZ y.1.num==(0:Int))=false:=by
   rw[beq_eq_false_iff_ne]
   exact fun e=>h0 (sgZ_num_eq.1 e)
  refine ac_ (s_r 11 ?_)
  refine d_6 ?_
  first|refine ay_ rfl rfl rfl (.index_l rfl rfl (by omega) (by omega) te_66.h) rfl rfl ?_|refine ay_ rfl rfl rfl (.index_a rfl rfl (by omega) g2 rfl te_66.h) rfl rfl ?_
  first|refine ay_ rfl rfl rfl (.load_l rfl rfl g2 tg_42.h ts_42.h (nle rfl)) rfl rfl ?_|refine ay_ rfl rfl rfl (.load_a rfl g2 tg_42.h ts_42.h (nle rfl)) rfl rfl ?_
  refine c_s (ng_ y) ?_
  refine ay_ rfl rfl rfl (.bin rfl rfl (vF a8_ (hz))) rfl rfl ?_
  refine a_z ?_
  refine cF (au_ ⟨n+1,⟨hn,?_⟩,?_⟩)
  rw[ht,hs,if_neg h0]
  simp only[hq_]
  exact s_e []
 rintro n ⟨hn,ht⟩
 simp only[hq_]
 have hnl:(trimQ v).length=n:=by rw[ht];simp;omega
 have htr:trimR x=x.take n:=by unfold trimR;rw[←hv,hnl]
 cases n with
 |zero=>
  refine s_r 5 ?_
  refine a_2 ?_
  refine o_0 (.sa_h rfl rfl (h:=0) rfl (by simp) te_66.h (jv_ _)) ?_
  refine o_0 (.append0 rfl rfl rfl te_66.h rfl rfl rfl (.arr (es:=[]) (by simp))) ?_
  refine a_z ?_
  refine ai_ ?_
  rw[htr]
  exact Fin.tmpN rfl
 |succ n=>
  obtain⟨X,hX⟩:∃X,X=x.take (n+1):=⟨_,rfl⟩
  have hXl:X.length=n+1:=by rw[hX];simp;omega
  have hXn:rE X≠[]:=fun e=>by have:=congrArg List.length e;simp[hXl] at this
  have e4:(rE x).take (n+1)=rE X:=by rw[rE_take,hX]
  have hXn':(rE x).take (n+1)≠[]:=by rw[e4];exact hXn
  refine s_r 5 ?_
  refine a_2 ?_
  refine o_0 (.sa_h rfl rfl (h:=n+1) rfl (by simp;omega) te_66.h (jv_ _)) ?_
  refine o_1 (.append_e rfl rfl rfl te_66.h rfl rfl rfl (.arr (by rw[e4];exact jv_ _)) (by first|assumption|(simp;done)) tz_42.h rfl tb_42.h d_o (by first|(simp[maxLen];done)|(simp[maxLen];omega))) ?_
  refine a_z ?_
  refine ai_ ?_
  rw[htr,←hX,←e4]
  exact Fin.tmpS rfl rfl rfl rfl (by rw[e4];exact aY_ _)
end Go.Proofs.YtdjfjpeoddmamaaGreatDoor
