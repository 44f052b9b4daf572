/- Part V27 of the proof. -/
import Derived.Test.YtdgbhlkabelmbaaGreatDoorV26
set_option linter.all false
namespace Go.Proofs.YtdgbhlkabelmbaaGreatDoor
open Go.Abs
set_option maxRecDepth 20000
set_option maxHeartbeats 2000000
def me(r:fc):Bool:=decide (¬((r.2.2:Int) % 4≠0)∧¬r.1> 999999∧¬r.1< -999999∧¬r.2.1> 999999∧¬r.2.1< -999999)
def fj(l:List fc)(k:Nat):Bool:=l.all me && decide (l.length≤k)
theorem pK(l:List fc)(k:Nat)(hl:l.length≤9223372036854775807)(hk:k≤1000000):FS 5 [.arr (nR l),i64 k] (bln (fj l k)):=by
 have m:(nR l).length=l.length:=by simp[nR]
 refine f_n Tryz.func5 ?_ ?_;exact ac (aH (cj l)) (ac (ag _) af);refine r_z 1 ?_;refine ae (r_z 1 ?_);refine aG (fun _:Unit=>⟨[(0,.arr (nR l)),(1,i64 k)],[],1,45⟩) (fun _=>l.all me=true) ?_ ?_;refine aj (aB (fun j:Nat=>⟨[(5,i64 ((j:Nat):Int)),(0,.arr (nR l)),(1,i64 k)],[],1,45⟩) (fun j=>l.length- j) (fun j=>j≤l.length∧(l.take j).all me=true) 0 ⟨Nat.zero_le _,rfl⟩ ?_ ?_);have:=(aH (cj l));exact s_f [];rintro j ⟨n,hg⟩;by_cases hlt:j< l.length;obtain⟨r,g⟩:∃r,l[j]?=some r:=⟨_,List.getElem?_eq_getElem hlt⟩
 have d:(nR l)[((j:Nat):Int).toNat]?=some (nuC r.1 r.2.1 r.2.2):=by
  rw[Int.toNat_natCast,nR,List.getElem?_map,g];rfl
 have b:me r=false→fj l k=false:=fun h=>by
  unfold fj;rw[Bool.and_eq_false_iff];exact .inl (List.all_eq_false.2 ⟨r,List.mem_of_getElem? g,by rw[h];decide⟩)
 refine ae (q_z 4 ?_);refine cT (ak (ae (aj (s_r 6 ?_))));refine a_2 ?_;refine i_x d ?_;refine l_x d ?_;refine a_z ?_;by_cases c0:((r.2.2:Int) % 4≠0);have a:me r=false:=decide_eq_false (by rintro⟨e0,e1,e2,f,c⟩;exact e0 c0);rw[b a];refine s_r 24 ?_;refine a_3 ?_;refine o_0 (.bin rfl rfl (vT dG ((by simpa using c0)))) ?_;refine a_z ?_;refine cT (r_z 1 ?_);exact ai (t_e (ag _));by_cases c1:r.1> 999999;have a:me r=false:=decide_eq_false (by rintro⟨e0,e1,e2,f,c⟩;exact e1 c1);rw[b a];refine s_r 24 ?_;refine a_3 ?_;refine o_0 (.bin rfl rfl (vF dG ((by simpa using c0)))) ?_;refine d_z ?_;refine cT (r_z 1 ?_);exact ai (t_e (ag _));by_cases c2:r.1< -999999;have a:me r=false:=decide_eq_false (by rintro⟨e0,e1,e2,f,c⟩;exact e2 c2);rw[b a];refine s_r 24 ?_;refine a_3 ?_;refine o_0 (.bin rfl rfl (vF dG ((by simpa using c0)))) ?_;refine d_z ?_;refine cT (r_z 1 ?_);exact ai (t_e (ag _));by_cases c3:r.2.1> 999999;have a:me r=false:=decide_eq_false (by rintro⟨e0,e1,e2,f,c⟩;exact f c3);rw[b a];refine s_r 24 ?_;refine a_3 ?_;refine o_0 (.bin rfl rfl (vF dG ((by simpa using c0)))) ?_;refine d_z ?_;refine cT (r_z 1 ?_);exact ai (t_e (ag _));by_cases c4:r.2.1< -999999;have a:me r=false:=decide_eq_false (by rintro⟨e0,e1,e2,f,c⟩;exact c c4);rw[b a];refine s_r 24 ?_;refine a_3 ?_;refine o_0 (.bin rfl rfl (vF dG ((by simpa using c0)))) ?_;refine d_z ?_;refine cT (r_z 1 ?_);exact ai (t_e (ag _));have a:me r=true:=decide_eq_true ⟨c0,c1,c2,c3,c4⟩;refine s_r 24 ?_;refine a_3 ?_
 refine o_0 (.bin rfl rfl (vF dG ((by simpa using c0)))) ?_;refine d_z ?_;refine cF (ak (r_m 3 ?_));refine a_z ?_;refine⟨j+1,by omega,⟨hlt,?_⟩,?_⟩;rw[cx g,List.all_append,hg];simp[a];have:=(aH (cj l));exact s_f [];have i:l.take j=l:=List.take_of_length_le (by omega);rw[i] at hg;refine ae (q_z 4 ?_);refine cF (ay ⟨(),hg,?_⟩);have:=(aH (cj l));exact s_f [];rintro _ hg
 have e:fj l k=decide ((((nR l).length:Nat):Int)≤(k:Int)):=by
  unfold fj;rw[hg,Bool.true_and,m];exact decide_eq_decide.2 (by omega)
 rw[e];refine r_z 5 ?_;exact ai (t_e (ag _))
theorem good_qs{r:fc}(h:me r=true)(hb:kL r.1)(hd:kL r.2.1):qs (pk r.1 r.2.1 r.2.2)≤20:=by
 obtain⟨e,h1,f,i,g⟩:=of_decide_eq_true h;have hp:r.2.2 % 4=0:=by omega
 have hN:bl r.1.natAbs≤20:=hZ (by omega);unfold pk;rw[hp];show qs (Rat.divInt r.1 (vm r.2.1))≤20;obtain⟨d,a⟩:∃d,d=vm r.2.1:=⟨_,rfl⟩;have b:d≠0:=by rw[a];unfold vm;split <;> omega
 have c:bl d.natAbs≤20:=by rw[a];unfold vm;split <;> exact hZ (by omega)
 rw[←a];by_cases hn:d< 0;rw[ov _ d hn];exact fo (by omega) (by rw[Int.natAbs_neg];exact hN) (by omega);rw[ou _ d (by omega)];exact fo (by omega) hN (by omega)
theorem oJ{l:List fc}{k:Nat}(h:fj l k=true)(ho:okR l):bdL (nL l) 20∧(nL l).length≤k:=by
 unfold fj at h;rw[Bool.and_eq_true,List.all_eq_true] at h;refine⟨fun q b=>?_,by simpa[nL] using h.2⟩;obtain⟨r,a,rfl⟩:=List.mem_map.1 b;exact good_qs (h.1 r a) (ho r a).1 (ho r a).2.1
theorem x8(N D N' D':Int)(k k':Nat)(hN:kL N)(hD:kL D)(hk:k≤255)(hN':kL N')(hD':kL D')(hk':k'≤255):
    FS 16 [.agg (nuC N D k++nuC N' D' k')] (.tup [.agg (spC (pk N D k) (pk N' D' k')),.agg (rC (rq (pk N D k))++rC (rq (pk N' D' k')))]):=by
 have b1:=pQ N D k hN hD hk;have b2:=pQ N' D' k' hN' hD' hk';obtain⟨v,hv⟩:∃v,v=pk N D k:=⟨_,rfl⟩;obtain⟨w,a⟩:∃w,w=pk N' D' k':=⟨_,rfl⟩;rw[←hv] at b1⊢;rw[←a] at b2⊢;refine f_n Tryz.func16 ?_ ?_;exact ac (aC fun c hc=>(List.mem_append.1 hc).elim (iF _ _ _ c) (iF _ _ _ c)) af;refine r_z 3 ?_;refine r_c 10 (b1) ?_;refine a_z ?_;refine r_c 10 (b2) ?_;refine a_z ?_;refine ae (r_d a6 8 ?_);refine a_8 ?_;refine ao (n_k ?_);refine ai (Fin.many ⟨_,_,rfl,⟨_,_,_,_,_,rfl,rfl,rfl,.inl ⟨TG.h,_,TS.h,nle rfl,rfl⟩⟩,⟨_,_,rfl,⟨_,_,_,_,_,rfl,rfl,rfl,.inl ⟨TG.h,_,TS.h,nle rfl,rfl⟩⟩,rfl⟩⟩ (nle rfl) ?_);exact ah (am aD (bG _ _)) (ah (am aD (aC fun c hc=>(List.mem_append.1 hc).elim (fQ _ c) (fQ _ c))) av)
structure CG (f N h Q:Nat)(p:List Rat)(c:Cnt):Prop where
 hc:jh f p=some c
 np:nz p
 ok:∀x,qs x≤Q→rW c x∧pg c x
 len:c.p.length≤N
 bd:bdL c.p (h+12* N+8)
 ht:Ht c.p (h+12* N+8)
def jB(N h g r J:Nat):Bool:=(List.range (N+1)).all fun m=>(List.range (m+1)).all fun n=>decide (sF (n+1) m n h g (r+1)+(max h g+(r+1+2) * m)+1≤J) && decide (sF (n+1) m n g h (r+1)+(max h g+(r+1+2) * m)+1≤J)
structure RC (f N h Q r J:Nat)(p:List Rat)(c:Cnt)(i:Int)(A B:Rat):Prop where
 H:CG f N h Q p c
 h1:1≤h
 hN:N≤12
 hJ:jB N (h+12* N+8) (h+12* N+13) r J=true
 at_:At c i A B
 hA:ab A≤p2 r
 hB:ab B≤p2 r
 i0:0≤i
 ia:i< allV c
 hQ:r+J+4≤Q
 hb:2* (h+12* N+8)+10≤Q
 hb2:h≤10000000
 hf:2* (h+12* N+8)+6≤f
section
variable {f N h Q r J g:Nat}{p:List Rat}{c:Cnt}{i:Int}{A B:Rat}(R:RC f N h Q r J p c i A B)
include R
end
section
variable {f N h Q r J g M hq X Xd Td J2:Nat}{p:List Rat}{c:Cnt}{i:Int}{A B:Rat}(R:RC f N h Q r J p c i A B)
include R
end
structure SB (f N h Q r g hq J2:Nat):Prop where
 hq1:1≤hq
 gcd:∃X,X≤137438953472∧((List.range (N+1)).all fun m=>(List.range (N+1)).all fun n=>hG f m n (h+12* N+8) hq X)=true
 cd:∃X T,cH f N (h+24* N+16) X T Q=true
 cq:∃X T,cH f N hq X T Q=true
 hJ2:jB N (h+24* N+16) hq r J2=true
 hg:J2< g
 hQ2:r+J2+4≤Q
 ev:24* (hq+Q+1)+hq+Q+2≤137438953472
theorem cmpQ_le{a b:Rat}:fy a b≤0↔a≤b:=by
 unfold fy;grind

structure RB (f N h Q r g kk J J2 J3:Nat):Prop where
 c1:∃X T,cH f N (h+5) X T Q=true
 N1:1≤N
 N12:N≤12
 h1:1≤h
 hJ:jB N (h+5+12* N+8) (h+5+12* N+13) r J=true
 gJ:J< g
 QJ:r+J+4≤Q
 S:SB f N (h+5) Q r g (h+5+(h+5+(r+2) * 24+2)+kk+3) J2
 j3:h+5+(r+3) * 24+kk+1≤J3
 g3:J3< g
 Q3:r+J3+4≤Q
 lim:h+5+24* (r+J3+2+(h+5)+1)+(r+J3+2)≤60000000000
 k3:kk≤256
 rw_:(r+2) * 24≤100000
 hb:2* (h+5+12* N+8)+10≤Q
 hb2:h+5≤10000000
 hf:2* (h+5+12* N+8)+6≤f
 gg:549755813890≤g
section
variable {f N h Q r g J J2 J3:Nat}{k:Int}(B:RB f N h Q r g (wi k 256) J J2 J3){p:List Rat}{K:Rat}(hpl:p.length≤24)(lp:(aq p).length≤N)(bp:bdL p h)(Hp:HS p K h){lo hi:Rat}(hlh:lo≤hi)(hlo:ab lo≤p2 r)(hhi:ab hi≤p2 r)
include B hpl lp bp Hp hlh hlo hhi
end

theorem sM(p q:List Rat)(o:eS p q):FS 87 [.arr (pE p),.arr (pE q)] (.arr (pE (aL p q))):=
 HL p q (mxL p) (mxL q) (eO p) (eO q) (ew p) (ew q) o.1 o.2.1 o.2.2.1 o.2.2.2
theorem b8{a b:List AV}(ha:∀c∈a,Closed c)(hb:∀c∈b,Closed c):∀c∈a++b,Closed c:=fun c hc=>(List.mem_append.1 hc).elim (ha c) (hb c)
theorem fs_SNeg(a b:Rat):FS 151 [.agg (spC a b)] (.agg (spC (-b) (-a))):=by
 refine f_c Tryz.func151 ?_;refine r_z 2 ?_;refine ae (r_d a6 8 ?_);refine c_s (kq b) ?_;refine c_s (kq a) ?_;refine a_2 ?_;refine ao (n_k ?_);exact ai (c_e (bG _ _))
def absL(v:Sp):Rat:=if 0≤v.1 then v.1 else if v.2≤0 then -v.2 else 0
theorem sg_ge{q:Rat}:(0:Int)≤sgZ q.num↔0≤q:=by
 have h:=sgZ_num_lt (q:=q);constructor;intro g;have:¬q< 0:=fun e=>by have:=h.2 e;omega
 grind;intro g;have:¬sgZ q.num< 0:=fun e=>by have:=h.1 e;grind
 omega
theorem sg_le{q:Rat}:sgZ q.num≤(0:Int)↔q≤0:=by
 have h:=sgZ_num_gt (q:=q);constructor;intro g;have:¬0< q:=fun e=>by have:=h.2 e;omega
 grind;intro g;have:¬0< sgZ q.num:=fun e=>by have:=h.1 e;grind
 omega
theorem fs_SAbs(v:Sp)(h1:sm v.1)(h2:sm v.2):FS 105 [.agg (spC v.1 v.2)] (.agg (spC (absL v) (C4 v))):=by
 have hc:∀c∈spC v.1 v.2,Closed c:=aY _ _;refine f_c Tryz.func105 ?_;refine r_z 2 ?_;refine ae (aj ?_);by_cases g1:0≤v.1;rw[show absL v=v.1 from if_pos g1,show C4 v=v.2 from if_pos g1];refine r_c 5 (cw v.1) ?_;refine o_0 (.bin rfl rfl (vT gj (decide_eq_true (sg_ge.2 g1)))) ?_;refine a_z ?_;refine cT (r_z 2 ?_);exact ai (c_e (bG _ _));refine r_c 5 (cw v.1) ?_;refine o_0 (.bin rfl rfl (vF gj (decide_eq_false (fun e=>g1 (sg_ge.1 e))))) ?_;refine a_z ?_;refine cF ?_;by_cases g2:v.2≤0;rw[show absL v= -v.2 from(if_neg g1).trans (if_pos g2),show C4 v= -v.1 from(if_neg g1).trans (if_pos g2)];refine r_c 5 (cw v.2) ?_;refine o_0 (.bin rfl rfl (vT ic (decide_eq_true (sg_le.2 g2)))) ?_;refine a_z ?_;refine cT (r_c 3 (fs_SNeg v.1 v.2) ?_);refine a_z ?_;exact ai (c_e (bG _ _));rw[show absL v=0 from(if_neg g1).trans (if_neg g2),show C4 v=nO [-v.1,v.2] from(if_neg g1).trans (if_neg g2)];refine r_c 5 (cw v.2) ?_;refine o_0 (.bin rfl rfl (vF ic (decide_eq_false (fun e=>g2 (sg_le.1 e))))) ?_;refine a_z ?_;refine cF (ak ?_);have a:=xT [-v.1,v.2] (w7 (by unfold sm;rw[iW];exact h1) h2) (by simp);refine ae (r_d a6 10 ?_);refine c_s (kq v.1) ?_;refine a_3 ?_;refine o_1 (.callS1 rfl rfl rfl (.shut rfl d_n (.nil)) rfl (a)) ?_;refine a_2 ?_;refine ao (n_k ?_);refine ai ?_;rw[show spC 0 (nO [-v.1,v.2])=[.arr [],bln false,.arr []]++qC (nO [-v.1,v.2]) from by unfold spC;rw[qC0]];refine Fin.cell rfl rfl rfl TG.h TS.h (nle rfl) ?_
 exact Cv.agg (ah (Cv.emp _) (ah (am aD (ag _)) (ah (Cv.emp _) (CvL.clo aD (aZ _)))))
abbrev prC(p:List Rat×List Rat):List AV:=[.arr (pE p.1),.arr (pE p.2)]
def kE(k:Ke):List (List AV):=k.map prC
@[simp] theorem dj (k:Ke):(kE k).length=k.length:=by simp[kE]
theorem fC(p:List Rat×List Rat):∀c∈prC p,Closed c:=ac (ax _) (ac (ax _) af)
theorem cU(k:Ke):∀x∈kE k,∀c∈x,Closed c:=fun x a=>by
 obtain⟨p,_,rfl⟩:=List.mem_map.1 a;exact fC p
theorem aU(k:Ke):Closed (.arr (kE k)):=aH (cU k)
theorem kj{k:Ke}{i:Nat}{p:List Rat×List Rat}(h:k[i]?=some p):∀e,e=i→(kE k)[e]?=some (prC p):=fun e a=>by
 rw[a,kE,List.getElem?_map,h];rfl
def AO(p:List Rat×List Rat):Bool:=decide (12< if bD p.2> bD p.1 then bD p.2 else bD p.1)
theorem Fm(p:List Rat×List Rat)(h1:p.1.length≤1099511627776)(h2:p.2.length≤1099511627776):FS 128 [.agg (prC p)] (bln (AO p)):=by
 refine f_n Tryz.func128 ?_ ?_;exact ac (aC (fC p)) af;refine r_z 2 ?_;refine ae (r_d a6 9 ?_);refine c_s (dk p.1 h1) ?_;refine c_s (dk p.2 h2) ?_;refine a_3 ?_;refine ao (n_k ?_);exact ai (t_e (ag _))
def jK{α:Type}(t:α→Bool):List α→Int→Int
 |[],_=> -1
 |a::l,i=>if t a then i else jK t l (i+1)
theorem pp{α:Type}(t:α→Bool):∀(l:List α) (i:Int),0≤i→(decide (0≤jK t l i))=l.any t
 |[],i,_=>by simp[jK]
 |a::l,i,hi=>by
  unfold jK;cases h:t a with
  |true=>simp[h,hi]
  |false=>simp[h];rw[←pp t l (i+1) (by omega)]
theorem yo{α:Type}{l:List α}{i:Nat}{a:α}(h:l[i]?=some a):l.drop i=a::l.drop (i+1):=by
 obtain⟨h1,b⟩:=List.getElem?_eq_some_iff.1 h;rw[←b];exact List.drop_eq_getElem_cons h1
def ikS(k:Ke)(g:Nat)(cap:List AV):Nat→AState
 |i=>⟨[(0,.arr (kE k)),(1,.clos g [] cap),(7,i64 k.length),(8,i64 i)],[],1,19⟩
theorem Fj(k:Ke)(g:Nat)(cap:List AV)(t:List Rat×List Rat→Bool)(hcap:∀c∈cap,Closed c)(hl:k.length≤1099511627776)(hg:∀p∈k,FS g ((.agg (prC p)::cap).map coe) (bln (t p))):FS 169 [.arr (kE k),.clos g [] cap] (i64 (jK t k 0)):=by
 have d:Closed (.clos g [] cap):=aP af hcap;have j:(kE k).length=k.length:=dj k;refine f_n Tryz.func169 ?_ ?_;exact ac (aU k) (ac d af);obtain⟨R,h⟩:∃R,R=jK t k 0:=⟨_,rfl⟩;rw[←h];refine r_z 1 ?_;refine ae (r_z 3 ?_);refine aG (fun _:Unit=>⟨[],[],1,19⟩) (fun _=>R= -1) ?_ ?_;refine aj (aB (ikS k g cap) (fun i=>k.length- i) (fun i=>i≤k.length∧jK t (k.drop i) i=R) 0 ⟨Nat.zero_le _,by rw[h];rfl⟩ ?_ ?_);simp only[ikS.eq_1];exact s_x [] (fun hs=>e_40) (fun hs=>e_41);rintro i ⟨l,a⟩;rw[ikS.eq_1];by_cases hlt:i< k.length;refine q_z 1 ?_;refine ae (cT (ak ?_));obtain⟨p,hp⟩:∃p,k[i]?=some p:=⟨_,List.getElem?_eq_getElem hlt⟩;have b:(kE k)[((i:Nat):Int).toNat]?=some (prC p):=kj hp _ (by simp);rw[yo hp,jK] at a;refine ae (aj (r_z 2 ?_));refine s_r 6 ?_;refine a_3 ?_;refine i_x b ?_;refine l_x b ?_;refine c_s (hg p (List.mem_of_getElem? hp)) ?_;refine ao ?_;refine ap rfl (fun h1=>?_) (fun h1=>?_);have e:t p=true:=h1;rw[if_pos e] at a;refine r_z 2 ?_;refine ai (aW rfl ?_ ?_);rw[←a];exact ag _;have e:¬t p=true:=by rw[show t p=false from h1];decide
 rw[if_neg e] at a;refine ak (r_m 2 ?_);refine a_z ?_;refine⟨i+1,by omega,⟨hlt,a⟩,?_⟩;simp only[ikS.eq_1];exact s_x [] (fun hs=>e_40) (fun hs=>e_41);have f:i=k.length:=by omega
 subst f;refine q_z 1 ?_;refine ae (cF ?_);rw[List.drop_length] at a;refine ay ⟨(),a.symm,?_⟩;exact s_e [];rintro _ a;refine r_z 1 ?_;refine ai (aW rfl ?_ ?_);rw[a];rfl;exact ag _
theorem xY(k:Ke)(g:Nat)(cap:List AV)(t:List Rat×List Rat→Bool)(hcap:∀c∈cap,Closed c)(hl:k.length≤1099511627776)(hg:∀p∈k,FS g ((.agg (prC p)::cap).map coe) (bln (t p)))(hcap2:cap.map coe=cap):FS 127 [.arr (kE k),.clos g [] cap] (bln (k.any t)):=by
 have a:Closed (.clos g [] cap):=aP af hcap;have e:=pp t k 0 (Int.le_refl 0);have b:=Fj k g cap t hcap hl hg;refine f_n Tryz.func127 ?_ ?_;exact ac (aU k) (ac a af);refine r_z 1 ?_;refine r_c 5 (b) ?_;refine a_z ?_;refine ai (aW rfl ?_ ?_);rw[←e];rfl;exact ag _
def tX(k:Ke):Prop:=k.length≤8∧k.any AO=false∧∀p∈k,p.1.length≤1099511627776∧p.2.length≤1099511627776
theorem Cu(k:Ke)(h:tX k):FS 81 [.arr (kE k)] (i64 0):=by
 have a:(kE k).length=k.length:=dj k;have hc:=xY k 128 [] AO af (by have:=h.1;omega) (fun p hp=>Fm p (h.2.2 p hp).1 (h.2.2 p hp).2) rfl;rw[h.2.1] at hc;have b:=h.1;refine f_n Tryz.func81 ?_ ?_;exact ac (aU k) af;refine r_z 1 ?_;refine ae (q_c 7 (hc) ?_);refine a_z ?_;refine cF (ak (r_z 1 ?_));exact ai (t_e (ag _))
theorem qM(k:Ke)(a b:Rat)(h:tX k)(ha:sm a)(hb:sm b)(hab:a≤b):FS 33 [.arr (kE k),.agg (spC a b)] (bln false):=by
 have h1:=Cu k h;have c:=mZ a b ha hb;rw[decide_eq_true (cmpQ_le.2 hab)] at c;refine f_n Tryz.func33 ?_ ?_;exact ac (aU k) (ac (bG _ _) af);refine r_z 2 ?_;refine r_c 9 (h1) ?_;refine o_0 (.bin rfl rfl (vF dG (rfl))) ?_;refine c_s (c) ?_;refine a_z ?_;exact ai (t_e (ag _))
abbrev eqC(k:Ke)(l:Rat)(g:List Rat):List AV:= .arr (kE k)::(qC l++[.arr (pE g)])
theorem cZ(k:Ke)(l:Rat)(g:List Rat):∀c∈eqC k l g,Closed c:=ac (aU k) fun c hc=>(List.mem_append.1 hc).elim (aZ l c) (ac (ax g) af c)
theorem gT(k:Ke)(l:Rat)(g:List Rat)(a b:Rat)(h:tX k)(ha:sm a)(hb:sm b)(hab:a≤b)(hg:bD g≤20)(hgl:g.length≤1099511627776):FS 35 [.agg (eqC k l g++spC a b)] (bln false):=by
 have h1:=qM k a b h ha hb hab;have d:=dk g hgl;have e:∀c∈eqC k l g++spC a b,Closed c:=fun c hc=>(List.mem_append.1 hc).elim (cZ k l g c) (aY a b c);refine f_c Tryz.func35 ?_;refine r_z 2 ?_;refine r_c 14 (h1) ?_;refine c_s (d) ?_;refine d_z ?_;exact ai (t_e (ag _))
theorem kN(a b:Rat)(hb:b≠0)(h:qs a+qs b≤549755813888):FS 63 [.agg (qC a),.agg (qC b)] (.agg (qC (a/ b))):=by
 refine f_c Tryz.func63 ?_;refine r_z 3 ?_;refine r_c 9 (Co a b hb h) ?_;refine a_z ?_;refine r_z 2 ?_;exact ai (c_e (aT _))
theorem fs_cut(p:List Rat)(n:Nat)(hp:p.length≤1099511627776)(hn:n≤1000000):FS 65 [.arr (pE p),i64 n] (.arr (pE (CO p n))):=by
 have c:(pE p).length=p.length:=by simp[pE]
 obtain⟨m,b⟩:∃m,m=min p.length (n+1):=⟨_,rfl⟩
 have ht:p.take m=p.take (n+1):=by
  rw[b];by_cases g:p.length≤n+1;rw[Nat.min_eq_left g,List.take_of_length_le (Nat.le_refl _),List.take_of_length_le g];rw[Nat.min_eq_right (by omega)]
 have e:(pE p).take m=pE (p.take (n+1)):=by rw[←ht];simp[pE,List.map_take]
 have a:=dd (p.take (n+1)) (by rw[List.length_take];omega);refine f_c Tryz.func65 ?_;refine r_z 1 ?_;refine s_r 9 ?_;refine a_6 ?_;refine o_0 (.sa_hE (h:=m) e rfl rfl (by rw[b];split <;> omega) (by omega) te_38.h (lh _)) ?_;refine c_s (a) ?_;refine a_z ?_;exact ai (t_e (ax _))
def rm(p:List Rat×List Rat):Bool:=decide (12< bD p.1)||decide (12< bD p.2)
def vaB(k:Ke):Bool:=!k.any rm && decide (k.length≤8)
theorem Fy(p:List Rat×List Rat):AO p=rm p:=by
 unfold AO rm;by_cases h1:12< bD p.1;rw[decide_eq_true h1,Bool.true_or,decide_eq_true];split <;> omega;by_cases h2:12< bD p.2;rw[decide_eq_true h2,Bool.or_true,decide_eq_true];split <;> omega;rw[decide_eq_false h1,decide_eq_false h2,Bool.or_false,decide_eq_false];split <;> omega
def vkS(k:Ke):Nat→AState
 |i=>⟨[(0,.arr (keR k)),(3,i64 i)],[],1,29⟩
theorem Ce(k:Ke)(hl:k.length≤1000)(h2:∀p∈k,p.1.length≤1000000∧p.2.length≤1000000):FS 49 [.arr (keR k)] (bln (vaB k)):=by
 have m:(keR k).length=k.length:=nS k;refine f_n Tryz.func49 ?_ ?_;exact ac (fD k) af;obtain⟨r,l⟩:∃r,r=vaB k:=⟨_,rfl⟩;rw[←l];refine r_z 1 ?_;refine ae (r_z 1 ?_);refine aG (fun _:Unit=>⟨[(0,.arr (keR k))],[],1,29⟩) (fun _=> ∀p∈k,rm p=false) ?_ ?_;refine aj (aB (vkS k) (fun i=>k.length- i) (fun i=>i≤k.length∧∀p∈k.take i,rm p=false) 0 ⟨Nat.zero_le _,fun p hp=>by simp at hp⟩ ?_ ?_);rw[vkS.eq_1];have:=fD k;exact s_f [];rintro i ⟨o,b⟩;rw[vkS.eq_1];by_cases hlt:i< k.length;obtain⟨p,hp⟩:∃p,k[i]?=some p:=⟨_,List.getElem?_eq_getElem hlt⟩;have a:(keR k)[((i:Nat):Int).toNat]?=some (pkR p):=keR_get hp _ (by simp);have d:=List.mem_of_getElem? hp;obtain⟨l1,l2⟩:=h2 p d;have d1:=iw (rP p.1) (by simp;omega);have d2:=iw (rP p.2) (by simp;omega);rw[s9] at d1 d2
 have g:rm p=true→r=false:=fun e=>by
  rw[l];unfold vaB;rw[List.any_eq_true.2 ⟨p,d,e⟩];rfl
 by_cases e1:12< bD p.1;refine ae (q_z 4 ?_);refine cT (ak (ae (aj (s_r 16 ?_))));refine a_2 ?_;refine i_x a ?_;refine a_1 ?_;refine l_1 a ?_;refine c_s (d1) ?_;refine d_z ?_;refine cT ?_;rw[g (by unfold rm;rw[decide_eq_true e1];rfl)];refine r_z 1 ?_;exact ai (t_e (ag _));by_cases e2:12< bD p.2;refine ae (q_z 4 ?_);refine cT (ak (ae (aj (s_r 16 ?_))));refine a_2 ?_;refine i_x a ?_;refine a_1 ?_;refine l_1 a ?_;refine c_s (d1) ?_;refine d_4 ?_
 first|refine aQ rfl rfl rfl (.index_l rfl rfl (by omega) (by omega) te_65.h) rfl rfl ?_|refine aQ rfl rfl rfl (.index_a rfl rfl (by omega) a rfl te_65.h) rfl rfl ?_
 refine m_1 ?_
 first|refine aQ rfl rfl rfl (.load_l1 rfl rfl a TG.h rfl) rfl rfl ?_|refine aQ rfl rfl rfl (.load_a1 rfl a TG.h rfl) rfl rfl ?_
 refine c_s (d2) ?_;refine d_z ?_;refine cT ?_;rw[g (by unfold rm;rw[decide_eq_true e2,Bool.or_true])];refine r_z 1 ?_;exact ai (t_e (ag _));refine ae (q_z 4 ?_);refine cT (ak (ae (aj (s_r 16 ?_))));refine a_2 ?_;refine i_x a ?_;refine a_1 ?_;refine l_1 a ?_;refine c_s (d1) ?_;refine d_4 ?_
 first|refine aQ rfl rfl rfl (.index_l rfl rfl (by omega) (by omega) te_65.h) rfl rfl ?_|refine aQ rfl rfl rfl (.index_a rfl rfl (by omega) a rfl te_65.h) rfl rfl ?_
 refine m_1 ?_
 first|refine aQ rfl rfl rfl (.load_l1 rfl rfl a TG.h rfl) rfl rfl ?_|refine aQ rfl rfl rfl (.load_a1 rfl a TG.h rfl) rfl rfl ?_
 refine c_s (d2) ?_;refine d_z ?_;refine cF (ak (r_m 3 ?_));refine a_z ?_;refine⟨i+1,by omega,⟨by omega,fun q c=>?_⟩,?_⟩;rw[cx hp] at c;rcases List.mem_append.1 c with c|c
 exact b q c;rw[List.mem_singleton.1 c];unfold rm;rw[decide_eq_false e1,decide_eq_false e2];rfl;rw[vkS.eq_1];have:=fD k;exact s_f [];have j:i=k.length:=by omega
 refine ae (q_z 4 ?_);refine cF (ay ⟨(),(by rw[j,List.take_length] at b;exact b),?_⟩);have:=fD k;exact s_f [];rintro _ f
 have n:r=decide (((keR k).length:Int)≤8):=by
  rw[l];unfold vaB;have:k.any rm=false:=List.any_eq_false.2 fun p hp=>by rw[f p hp];decide
  rw[this,m];show decide (k.length≤8)=_;exact decide_eq_decide.2 (by omega)
 rw[n];refine r_z 4 ?_;exact ai (t_e (ag _))
theorem HH(k:Ke)(g:List Rat)(hl:k.length≤1000)(h2:∀p∈k,p.1.length≤1000000∧p.2.length≤1000000)(hg:g.length≤1000000):FS 18 [.arr (keR k),.arr (rE (rP g))] (bln (!vaB k||decide (20< bD g))):=by
 have hv:=Ce k hl h2;have a:=iw (rP g) (by simp;omega);rw[s9] at a;refine f_n Tryz.func18 ?_ ?_;exact ac (fD k) (ac (eX _) af);refine r_z 1 ?_;cases e:vaB k with
 |false=>
  rw[e] at hv;refine r_c 9 (hv) ?_;refine d_z ?_;exact ai (t_e (ag _))
 |true=>
  rw[e] at hv;refine r_c 9 (hv) ?_;refine e_s (a) ?_;refine d_z ?_;exact ai (t_e (ag _))
theorem smL_one{v:Rat}(h:sm v):smL [v]:=fun x a=>by rw[List.mem_singleton.1 a];exact h
def upS(k:Ke)(a:Rat)(u:List Rat):Nat×List Rat→AState
 |(i,o)=>⟨[(2,.arr (pE u)),(4,.lptr 1 0 0),(7,.arr (pE o)),(11,.arr (kE k)),(12,i64 k.length),(13,i64 i)],[(1,some ⟨36,3,[qC a]⟩)],2,35⟩
theorem Hi(k:Ke)(a:Rat)(u:List Rat)(h:zo k a u)(hl:k.length≤1000):FS 66 [.arr (kE k),.agg (qC a),.arr (pE u)] (.arr (pE (upK k a u))):=by
 have m:(kE k).length=k.length:=dj k;refine f_n Tryz.func66 ?_ ?_;exact ac (aU k) (ac (aT a) (ac (ax u) af));refine r_z 2 ?_;refine r_z 1 ?_;refine ae (r_z 3 ?_);refine aG (fun _:Unit=>⟨[(7,.arr (pE (upK k a u)))],[],1,35⟩) (fun _=>True) ?_ ?_;refine aj (aB (upS k a u) (fun x=>k.length- x.1) (fun x=>x.1≤k.length∧x.2=upL a u (k.take x.1) []) (0,[]) ⟨Nat.zero_le _,rfl⟩ ?_ ?_);simp only[upS.eq_1];exact s_x [(1,4)] (fun hs=>e_42) (fun hs=>e_43);rintro⟨i,o⟩ ⟨l,b⟩;simp only at l b;rw[upS.eq_1];by_cases hlt:i< k.length;obtain⟨p,hp⟩:∃p,k[i]?=some p:=⟨_,List.getElem?_eq_getElem hlt⟩;have c:(kE k)[((i:Nat):Int).toNat]?=some (prC p):=kj hp _ (by simp);have ok:=h i p hp;rw[←b] at ok;have h1:=sM p.2 u ok.m1;have n:=rN (aL p.2 u) (tW ok.m1) ok.i1;have e:=j5 (aK (aL p.2 u)) a ok.e1;have g:=xQ (aK (aL p.2 u)) [au (aK (aL p.2 u)) a] ok.i2 (smL_one (uE ok.e1)) ok.l1 (by simp);have f:=sM p.1 _ ok.m2;have j:=mh o _ ok.o1 (tW ok.m2) ok.o2 ok.l2;refine q_z 1 ?_;refine ae (cT (ak (ae (aj (s_r 4 ?_)))));refine i_x c ?_;refine l_x c ?_;refine a_z ?_;refine r_c 6 (h1) ?_;refine c_s (n) ?_;refine a_z ?_;refine r_d a6 12 ?_;refine c_s (e) ?_;refine a_1 ?_;refine o_1 (.callS1 rfl rfl rfl (.keep (.shut rfl d_n (.nil))) rfl (g)) ?_;refine c_s (f) ?_;refine c_s (j) ?_;refine a_1 ?_;refine ao (n_k ?_);refine r_m 2 ?_;refine a_z ?_;refine⟨(i+1,upF a u o p),by simp only;omega,⟨hlt,by simp only;rw[cx hp,yO,←b]⟩,?_⟩;simp only[upS.eq_1];unfold upF;exact s_x [] (fun hs=>e_42) (fun hs=>e_43)
 have d:i=k.length:=by omega
 subst d;refine q_z 1 ?_;refine ae (cF ?_);rw[List.take_length] at b;refine ay ⟨(),trivial,?_⟩;unfold upK;rw[←b];exact s_e [];rintro _ _;refine r_z 2 ?_;exact ai (t_e (ax _))
theorem E5(a:Rat)(p:List Rat×List Rat)(h1:gu [a,1] p.1∧p.1.length≤274877906944)(h2:gu [a,1] p.2∧p.2.length≤274877906944):FS 113 [.agg (prC p),bQ a] (.agg (prC (ce [a,1] p.1,ce [a,1] p.2))):=by
 have c:=uu p.1 a h1.1 h1.2;have b:=uu p.2 a h2.1 h2.2;refine f_n Tryz.func113 ?_ ?_;exact ac (aC (fC p)) (ac (cu a) af);refine r_z 2 ?_;refine ae (r_d a6 10 ?_);refine c_s (c) ?_;refine c_s (b) ?_;refine a_2 ?_;refine ao (n_k ?_);exact ai (c_e (aC (fC _)))
def ecS(k:Ke)(g:Nat)(cap:List AV)(f:List Rat×List Rat→List Rat×List Rat):Nat→AState
 |0=>⟨[(1,.clos g [] cap),(8,.arr (kE k)),(9,i64 k.length),(10,i64 0),(5,.emp)],[],1,22⟩
 |i+1=>⟨[(1,.clos g [] cap),(8,.arr (kE k)),(9,i64 k.length),(10,i64 ((i+1:Nat):Int)),(5,.lsl 1 0 (i+1) none 2)],[(1,some ⟨52,2,kE ((k.take (i+1)).map f)⟩)],2,22⟩
theorem xJ(k:Ke):(kE k).all (·.all AV.one)=true:=by
 rw[List.all_eq_true];intro x a;obtain⟨p,_,rfl⟩:=List.mem_map.1 a;rfl
theorem DQ(k:Ke)(p:List Rat×List Rat):kE (k++[p])=kE k++[prC p]:=by simp[kE]
theorem HD(k:Ke)(g:Nat)(cap:List AV)(f:List Rat×List Rat→List Rat×List Rat)(hcap:∀c∈cap,Closed c)(hl:k.length≤1000)(hg:∀p∈k,FS g ((.agg (prC p)::cap).map coe) (.agg (prC (f p)))):FS 112 [.arr (kE k),.clos g [] cap] (.arr (kE (k.map f))):=by
 have q:(kE k).length=k.length:=dj k;have e:Closed (.clos g [] cap):=aP af hcap;refine f_n Tryz.func112 ?_ ?_;exact ac (aU k) (ac e af);refine r_z 1 ?_;refine r_z 1 ?_;refine ae (r_z 3 ?_);refine aG (fun _:Unit=>⟨[(5,.arr (kE (k.map f)))],[],1,22⟩) (fun _=>True) ?_ ?_;refine aj (aB (ecS k g cap f) (fun i=>k.length- i) (fun i=>i≤k.length) 0 (Nat.zero_le _) ?_ ?_);rw[ecS.eq_1];exact s_x [] (fun hs=>e_5) (fun hs=>e_44);intro i r;by_cases hlt:i< k.length
 ·obtain⟨p,hp⟩:∃p,k[i]?=some p:=⟨_,List.getElem?_eq_getElem hlt⟩
  have l:=hg p (List.mem_of_getElem? hp);have o:(k.take (i+1)).length=i+1:=by rw[List.length_take];omega
  have b:kE ((k.take i).map f)++[prC (f p)]=kE ((k.take (i+1)).map f):=by rw[cx hp,List.map_append,List.map_singleton,DQ]
  cases i with
  |zero=>
   have a:(kE k)[((0:Int)).toNat]?=some (prC p):=kj hp _ rfl;rw[ecS.eq_1];refine q_z 1 ?_;refine ae (cT (ak (ae (aj (s_r 4 ?_)))));refine i_x a ?_;refine l_x a ?_;refine a_z ?_;refine r_m 7 ?_;refine c_s (l) ?_;refine a_z ?_;refine r_m 2 ?_;refine a_z ?_;refine⟨0+1,by omega,by omega,?_⟩;rw[ecS.eq_2];rw[←b];refine s_x [(1,5)] (fun hs=>e_5) (fun hs=>?_)
   ·repeat' (first|exact aE|refine h_c ?_ ?_|exact a8 hs (cU [f p])|exact bC|refine az ?_|exact av|refine ah ?_ ?_|exact am hs (aU k)|exact am hs e|exact aV)
  |succ i=>
   have a:(kE k)[(((i+1:Nat):Int)).toNat]?=some (prC p):=kj hp _ (by simp);have n:=xJ ((k.take (i+1)).map f);have d:(kE ((k.take (i+1)).map f)).length=i+1:=by rw[dj,List.length_map,List.length_take];omega
   rw[ecS.eq_2];refine q_z 1 ?_;refine ae (cT (ak (ae (aj (s_r 4 ?_)))));refine i_x a ?_;refine l_x a ?_;refine a_z ?_;refine r_m 7 ?_;refine c_s (l) ?_;refine o_1 (.buildSlice te_28.h TZ.h rfl (by decide) rfl rfl rfl (by first|(simp;done)|(simp[bZ,ofV];done)|rfl)) ?_;refine o_2 (.append_l rfl rfl rfl te_28.h rfl rfl rfl rfl rfl d_o (by first|exact dq _|exact dp _|exact cW _|exact dr _|exact dn _|assumption|rfl|simp) (by first|rfl|exact dq _|exact dp _|exact cW _|exact dr _|exact dn _|simp) rfl (.lsl rfl (nle rfl)) TZ.h rfl TB.h d_o (by first|(simp[maxLen];done)|(simp[maxLen];omega))) ?_;refine o_0 (.assign rfl) ?_;refine ao ?_;refine r_m 2 ?_;refine a_z ?_;refine⟨i+1+1,by omega,by omega,?_⟩;rw[ecS.eq_2];refine s_x [(1,5)] (fun hs=>e_5) (fun hs=>?_)
   ·repeat' (first|exact aE|refine h_c ?_ ?_|exact aI hs b (cU _)|exact bC|refine az ?_|exact av|refine ah ?_ ?_|exact am hs (aU k)|exact am hs e|exact aV)
 have j:i=k.length:=by omega
 cases i with
 |zero=>
  have m:k=[]:=List.eq_nil_of_length_eq_zero j.symm;subst m;rw[ecS.eq_1];refine q_z 1 ?_;refine ae (cF (ay ⟨(),trivial,?_⟩));exact s_e []
 |succ i=>
  have d:(kE (k.map f)).length=i+1:=by rw[dj,List.length_map];omega
  rw[ecS.eq_2,j,List.take_length];refine q_z 1 ?_;refine ae (cF (ay ⟨(),trivial,?_⟩));refine s_x [] (fun hs=>?_) (fun hs=>?_)
  ·repeat' (first|exact aN|refine aA rfl ?_ ?_|(refine Cv.shut hs rfl (aM rfl) (by simp) ?_;exact aI hs (by rw[List.drop_zero];exact List.take_of_length_le (by simp)) (cU _))|exact aV)
  ·repeat' (first|exact aE|refine h_c ?_ ?_|exact bC|refine az ?_|exact av|refine ah ?_ ?_|(refine Cv.shut hs rfl (aM rfl) (by simp) ?_;exact aI hs (by rw[List.drop_zero];exact List.take_of_length_le (by simp)) (cU _))|exact aV)
 rintro _ _;refine r_z 2 ?_;exact ai (t_e (aU _))
theorem Hv(k:Ke)(l:Rat)(g:List Rat)(a:Rat)(hl:k.length≤1000)(hk:∀p∈k,(gu [a,1] p.1∧p.1.length≤274877906944)∧gu [a,1] p.2∧p.2.length≤274877906944)(hg:gu [a,1] g)(hgl:g.length≤274877906944):FS 64 [.agg (eqC k l g),.agg (qC a)] (.agg (eqC (mvK a k) l (ce [a,1] g))):=by
 have h1:=HD k 113 [bQ a] (fun p=>(ce [a,1] p.1,ce [a,1] p.2)) (ac (cu a) af) hl fun p hp=>E5 a p (hk p hp).1 (hk p hp).2;have c:=uu g a hg hgl;have b:=cZ k l g;refine f_c Tryz.func64 ?_;refine r_z 3 ?_;refine AWp.ent (st':=⟨[(2,.aptr [eqC k l g] 0 0),(3,bQ a),(4,.lptr 1 0 0)],[(1,some ⟨40,5,[.emp::(zC++[.emp])]⟩)],2,16⟩) ?_ ?_;refine s_x [(1,4)] (fun hs=>?_) (fun hs=>?_)
 ·repeat' (first|exact aN|refine aA rfl ?_ ?_|exact Cv.boxp hs rfl (aM rfl) rfl b|exact Cv.boxp hs rfl (aM rfl) rfl (aZ a)|exact aV)
 ·repeat' (first|exact aE|refine h_c ?_ ?_|exact bC|refine az ?_|exact av|refine ah ?_ ?_|exact Cv.boxp hs rfl (aM rfl) rfl b|exact Cv.boxp hs rfl (aM rfl) rfl (aZ a)|exact aV)
 refine ae (r_d a6 12 ?_);refine c_s (h1) ?_;refine c_s (c) ?_;refine a_2 ?_;refine ao (n_k ?_);exact ai (c_e (aC (cZ _ _ _)))
theorem spC00:spC 0 0=[.arr [],bln false,.arr [],.arr [],bln false,.arr []]:=by unfold spC;rw[qC0];rfl
theorem B9(k:Ke)(l:Rat)(g:List Rat)(h:tX k)(hg:bD g≤20)(hgl:g.length≤1099511627776):FS 35 [.agg (eqC k l g++[.arr [],bln false,.arr [],.arr [],bln false,.arr []])] (bln false):=by
 have:=gT k l g 0 0 h (by decide) (by decide) Rat.le_refl hg hgl;rw[spC00] at this;exact this
theorem Hk(k:Ke)(u:List Rat)(h:zo k 0 u)(hl:k.length≤1000):FS 66 [.arr (kE k),.agg [.arr [],bln false,.arr []],.arr (pE u)] (.arr (pE (upK k 0 u))):=by
 have:=Hi k 0 u h hl;rw[qC0] at this;exact this
structure OkSe (k:Ke)(l:Rat)(g:List Rat)(a:Rat)(n:Nat):Prop where
 ke:tX k
 dg:bD g≤20
 mv:∀p∈k,(gu [a,1] p.1∧p.1.length≤274877906944)∧gu [a,1] p.2∧p.2.length≤274877906944
 mg:gu [a,1] g
 gl:g.length≤274877906944
 sl:sm l
 sg:smL (ce [a,1] g)
 gl2:(ce [a,1] g).length≤1099511627776
 up:∀r,r≤n→zo (mvK a k) 0 (seK (mvK a k) (ce [a,1] g) l n r)
 us:∀r,r≤n→smL (upK (mvK a k) 0 (seK (mvK a k) (ce [a,1] g) l n r))∧(upK (mvK a k) 0 (seK (mvK a k) (ce [a,1] g) l n r)).length≤1099511627776
 ss:∀r,r≤n→smL (aX (upK (mvK a k) 0 (seK (mvK a k) (ce [a,1] g) l n r)) l)
def seS(k:Ke)(l:Rat)(g:List Rat)(a:Rat)(n:Nat):Nat→AState
 |r=>⟨[(2,i64 n),(9,.lptr 1 0 0),(10,.arr (pE (seK (mvK a k) (ce [a,1] g) l n r))),(29,i64 ((n:Int)+1)),(30,i64 r)],[(1,some ⟨40,5,[eqC (mvK a k) l (ce [a,1] g)]⟩)],2,47⟩
theorem Fe(k:Ke)(l:Rat)(g:List Rat)(a:Rat)(n:Nat)(hn:n≤40)(hok:OkSe k l g a n):FS 23 [.agg (eqC k l g),.agg (qC a),i64 n] (.tup [.arr (pE (seK (mvK a k) (ce [a,1] g) l n (n+1))),i64 0]):=by
 have p:=cZ k l g;have m:=cZ (mvK a k) l (ce [a,1] g);have i:=hok.ke.1;have q:(mvK a k).length=k.length:=by simp[mvK]
 have j:=B9 k l g hok.ke hok.dg (by have:=hok.gl;omega);have o:=Hv k l g a (by omega) hok.mv hok.mg hok.gl;refine f_c Tryz.func23 ?_;refine r_z 4 ?_;refine r_z 5 ?_;refine ae (aj (r_c 3 (j) ?_));refine a_z ?_;refine cF (q_z 7 ?_);refine cF (ak (r_c 6 (o) ?_));refine a_z ?_;refine r_z 1 ?_;refine ae (r_z 3 ?_);refine aG (fun _:Unit=>⟨[(10,.arr (pE (seK (mvK a k) (ce [a,1] g) l n (n+1))))],[],1,47⟩) (fun _=>True) ?_ ?_;refine aj (aB (seS k l g a n) (fun r=>n+1- r) (fun r=>r≤n+1) 0 (Nat.zero_le _) ?_ ?_);simp only[seS.eq_1];exact s_f [(1,9)];intro r s;rw[seS.eq_1];by_cases hlt:r< n+1;have d:=Hk (mvK a k) _ (hok.up r (by omega)) (by omega);have b:=hok.us r (by omega);have f:=eI _ l b.1 hok.sl b.2;have e:=mh (ce [a,1] g) _ hok.sg (hok.ss r (by omega)) hok.gl2 (Nat.le_trans (cL _ _) b.2)
 have c:=fs_cut (fR (ce [a,1] g) (aX (upK (mvK a k) 0 (seK (mvK a k) (ce [a,1] g) l n r)) l)) n (by
  have h1:=jV (ce [a,1] g) (aX (upK (mvK a k) 0 (seK (mvK a k) (ce [a,1] g) l n r)) l);have t:=cL (upK (mvK a k) 0 (seK (mvK a k) (ce [a,1] g) l n r)) l;have:=hok.gl2;have:=b.2;omega) (by omega)
 refine q_z 1 ?_;refine ae (cT (ak (ae (aj (r_d a6 14 ?_)))));refine c_s (d) ?_;refine c_s (f) ?_;refine c_s (e) ?_;refine c_s (c) ?_;refine a_1 ?_;refine ao (n_k ?_);refine r_m 2 ?_;refine a_z ?_;refine⟨r+1,by omega,by omega,?_⟩;simp only[seS.eq_1];rw[seK];exact s_f [(1,9)];have h:r=n+1:=by omega
 subst h;refine q_z 1 ?_;refine ae (cF (ay ⟨(),trivial,?_⟩));exact s_e [];rintro _ _;refine r_z 3 ?_;refine ai (Fin.many ⟨_,_,rfl,rfl,⟨_,_,rfl,rfl,rfl⟩⟩ (nle rfl) ?_);exact ah (am aD (ax _)) (ah (am aD (ag _)) av)
theorem vV{k:Ke}(hkl:k.length≤3)(h4:∀p∈k,p.1.length≤4∧p.2.length≤4):tX k:=by
 refine⟨by omega,?_,fun p hp=>by have:=h4 p hp;omega⟩;rw[List.any_eq_false];intro p hp;have h:=h4 p hp;have b:=bF p.1;have a:=bF p.2
 have:¬(12< if bD p.2> bD p.1 then bD p.2 else bD p.1):=by
  unfold bD;split <;> omega
 unfold AO;simpa using this
theorem Eg(g:List Rat){n:Nat}(h:g.length≤n+1):bD g≤n:=by
 have:=bF g;unfold bD;omega
theorem FC{k:Ke}{l:Rat}{g:List Rat}{a:Rat}{n:Nat}(hn:n≤40)(hkl:k.length≤3)(h4:∀p∈k,p.1.length≤4∧p.2.length≤4)(hb:∀p∈k,bdL p.1 20∧bdL p.2 20)(hg:g.length≤5)(bg:bdL g 20)(hl:qs l≤20)(ha:qs a≤20):OkSe k l g a n:=by
 obtain⟨O,Q,x,A,C,E,w⟩:=IH hkl h4 hb;obtain⟨c,u,d0⟩:=C6 ha;obtain⟨i,j,y⟩:=C6 hl;obtain⟨F,v⟩:=yJ g bg;have v:=v.mono (show _≤101 by omega);obtain⟨z,B,s,m,t,q,f⟩:=FD x A C E w d0 u c;obtain⟨D,e⟩:=HS_shift' (N:=4) d0 u c v (by omega);have e:=e.mono (show _≤3000 by omega);have lg:=jP a g;have h:(mvK a k).length≤900:=by unfold mvK;simp;omega
 have S:=fun r (o:r≤1000)=>Ga (k:=mvK a k) (G:=ce [a,1] g) (L:=l) s h (by omega) (by omega) m t q f e y j i hn r o;have U:=fun r (o:r≤1000) (K:Rat) (H:HS (seK (mvK a k) (ce [a,1] g) l n r) K (20000* r+1))=>wS (a:=0) (d:=1) s h (by have:=xb (mvK a k) (ce [a,1] g) l n r;omega) H (by decide) (IB.one.mono (by omega)) ((IB.zero 20).eq (by grind)) (by decide) (by omega) m t q f (by omega);refine⟨vV hkl h4,by have:=Eg g (n:=4) (by omega);omega,fun p hp=>?_,?_,by omega,by unfold sm;omega,c6 (e.bdL (by omega)) (by omega),by omega,fun r o=>(S r (by omega)).2,fun r o=>?_,fun r o=>?_⟩;obtain⟨J,M⟩:=h4 p hp;exact⟨⟨mQ (N:=3) d0 u c ha (by omega) (by omega) (by omega) _ (by omega) (x.a p hp),by omega⟩,mQ (N:=3) d0 u c ha (by omega) (by omega) (by omega) _ (by omega) (x.b p hp),by omega⟩;exact mQ (N:=4) d0 u c ha (by omega) (by omega) (by omega) _ (by omega) v;obtain⟨K,H⟩:=(S r (by omega)).1;obtain⟨u1,u2,_⟩:=U r (by omega) K H;have hl:=xb (mvK a k) (ce [a,1] g) l n r;exact⟨c6 (u1.bdL (by omega)) (by omega),by omega⟩;obtain⟨K,H⟩:=(S r (by omega)).1;obtain⟨u1,u2,_⟩:=U r (by omega) K H;exact c6 ((u1.k y j i).bdL (by omega)) (by omega)
theorem any_big(k:Ke):k.any AO=k.any rm:=by
 congr 1;exact funext Fy
theorem okKe_va{k:Ke}(h:vaB k=true)(h2:∀p∈k,p.1.length≤1099511627776∧p.2.length≤1099511627776):tX k:=by
 unfold vaB at h;simp only[Bool.and_eq_true,Bool.not_eq_true',decide_eq_true_eq] at h;exact⟨h.2,by rw[any_big];exact h.1,h2⟩
theorem Fg(l:List fc)(ho:okR l)(hl:l.length≤9223372036854775807):
    FS 15 [.arr (nR l)] (if 40< l.length then .tup [.arr (pE []),.arr (rE []),bln false] else .tup [.arr (pE (nL l)),.arr (rE (rP (nL l))),bln (fj l 5||decide (20< bD (nL l)))]):=by
 have b:(nR l).length=l.length:=by simp[nR]
 have c:=aH (cj l);by_cases h40:40< l.length;rw[if_pos h40];refine f_c Tryz.func15 ?_;refine r_z 3 ?_;refine ae (q_z 3 ?_);refine cT (r_z 3 ?_);refine ai (Fin.many ⟨_,_,rfl,rfl,⟨_,_,rfl,rfl,⟨_,_,rfl,rfl,rfl⟩⟩⟩ (nle rfl) ?_);exact ah (Cv.emp _) (ah (Cv.emp _) (ah (am aD (ag _)) av));rw[if_neg h40];have hb:=pP l (by omega) ho;have ht:=pK l 5 hl (by decide);have a:=iw (rP (nL l)) (by simp[nL];omega);rw[s9] at a;cases e:fj l 5 with
 |true=>
  rw[e] at ht;refine f_c Tryz.func15 ?_;refine r_z 3 ?_;refine ae (q_z 3 ?_);refine cF (ak (r_c 7 (hb) ?_));refine a_z ?_;refine r_c 12 (ht) ?_;refine d_z ?_;refine ai (Fin.many ⟨_,_,rfl,rfl,⟨_,_,rfl,rfl,⟨_,_,rfl,rfl,rfl⟩⟩⟩ (nle rfl) ?_);exact ah (am aD (ax _)) (ah (am aD (eX _)) (ah (am aD (ag _)) av))
 |false=>
  rw[e] at ht;refine f_c Tryz.func15 ?_;refine r_z 3 ?_;refine ae (q_z 3 ?_);refine cF (ak (r_c 7 (hb) ?_));refine a_z ?_;refine r_c 12 (ht) ?_;refine e_s (a) ?_;refine d_z ?_;refine ai (Fin.many ⟨_,_,rfl,rfl,⟨_,_,rfl,rfl,⟨_,_,rfl,rfl,rfl⟩⟩⟩ (nle rfl) ?_);exact ah (am aD (ax _)) (ah (am aD (eX _)) (ah (am aD (ag _)) av))
end Go.Proofs.YtdgbhlkabelmbaaGreatDoor
