/- Part W28 of the proof. -/
import Derived.Test.YtjkddcfoolilbaaGreatDoorW27
set_option linter.all false
namespace Go.Proofs.YtjkddcfoolilbaaGreatDoor
open Go.Abs
set_option maxRecDepth 20000
set_option maxHeartbeats 2000000
theorem smL_one{v:Rat}(h:sm v):smL [v]:=fun x hx=>by rw[List.mem_singleton.1 hx];exact h
def upS(k:Ke)(a:Rat)(u:List Rat):Nat×List Rat→AState
 |(i,o)=>⟨[(2,.arr (pE u)),(4,.lptr 1 0 0),(7,.arr (pE o)),(11,.arr (kE k)),(12,i64 k.length),(13,i64 i)],[(1,some ⟨46,3,[qC a]⟩)],2,35⟩
theorem fs_uptoK(k:Ke)(a:Rat)(u:List Rat)(h:okUpK k a u)(hl:k.length≤1000):FS 45 [.arr (kE k),.agg (qC a),.arr (pE u)] (.arr (pE (upK k a u))):=by
 have hkl:(kE k).length=k.length:=bX_ k;refine f_n Tryz.func45 ?_ ?_;exact aa_ (aA_ k) (aa_ (aC_ a) (aa_ (ap_ u) ac_));refine r_z 2 ?_;refine r_z 1 ?_;refine ab_ (r_z 3 ?_);refine av_ (fun _:Unit=>⟨[(7,.arr (pE (upK k a u)))],[],1,35⟩) (fun _=>True) ?_ ?_;refine af_ (aq_ (upS k a u) (fun x=>k.length- x.1) (fun x=>x.1≤k.length∧x.2=upL a u (k.take x.1) []) (0,[]) ⟨Nat.zero_le _,rfl⟩ ?_ ?_);simp only[upS.eq_1];exact s_x [(1,4)] (fun hs=>e_36) (fun hs=>e_37);rintro⟨i,o⟩ ⟨hi,ho⟩;simp only at hi ho;rw[upS.eq_1];by_cases hlt:i< k.length;obtain⟨p,hp⟩:∃p,k[i]?=some p:=⟨_,List.getElem?_eq_getElem hlt⟩;have hgt:(kE k)[((i:Nat):Int).toNat]?=some (prC p):=fF_ hp _ (by simp);have ok:=h i p hp;rw[←ho] at ok;have h1:=kO_ p.2 u ok.m1;have h2:=iX_ (mulP p.2 u) (kq_ ok.m1) ok.i1;have h3:=dU_ (aJ_ (mulP p.2 u)) a ok.e1;have h4:=fs_Sub (aJ_ (mulP p.2 u)) [evalP (aJ_ (mulP p.2 u)) a] ok.i2 (smL_one (kV_ ok.e1)) ok.l1 (by simp);have h5:=kO_ p.1 _ ok.m2;have h6:=i0_ o _ ok.o1 (kq_ ok.m2) ok.o2 ok.l2;refine q_z 1 ?_;refine ab_ (cT (ah_ (ab_ (af_ (s_r 4 ?_)))));refine i_x hgt ?_;refine l_x hgt ?_;refine a_z ?_;refine r_c 6 (h1) ?_;refine c_s (h2) ?_;refine a_z ?_;refine r_d hmix 12 ?_;refine c_s (h3) ?_;refine a_1 ?_;refine o_1 (.callS1 rfl rfl rfl (.keep (.shut rfl d_n (.nil))) rfl (h4)) ?_;refine c_s (h5) ?_;refine c_s (h6) ?_;refine a_1 ?_;refine ak_ (n_k ?_);refine r_m 2 ?_;refine a_z ?_;refine⟨(i+1,upF a u o p),by simp only;omega,⟨hlt,by simp only;rw[br_ hp,nD_,←ho]⟩,?_⟩;simp only[upS.eq_1]
 unfold upF;exact s_x [] (fun hs=>e_36) (fun hs=>e_37);have hge:i=k.length:=by omega
 subst hge;refine q_z 1 ?_;refine ab_ (cF ?_);rw[List.take_length] at ho;refine ao_ ⟨(),trivial,?_⟩;unfold upK;rw[←ho];exact s_e [];rintro _ _;refine r_z 2 ?_;exact ag_ (t_e (ap_ _))
theorem rF_(a:Rat)(p:List Rat×List Rat)(h1:dS_ [a,1] p.1∧p.1.length≤274877906944)(h2:dS_ [a,1] p.2∧p.2.length≤274877906944):FS 115 [.agg (prC p),bQ a] (.agg (prC (compP [a,1] p.1,compP [a,1] p.2))):=by
 have g1:=kL_ p.1 a h1.1 h1.2;have g2:=kL_ p.2 a h2.1 h2.2;refine f_n Tryz.func115 ?_ ?_;exact aa_ (aw_ (dg_ p)) (aa_ (bf_ a) ac_);refine r_z 2 ?_;refine ab_ (r_d hmix 10 ?_);refine c_s (g1) ?_;refine c_s (g2) ?_;refine a_2 ?_;refine ak_ (n_k ?_);exact ag_ (c_e (aw_ (dg_ _)))
def ecS(k:Ke)(g:Nat)(cap:List AV)(f:List Rat×List Rat→List Rat×List Rat):Nat→AState
 |0=>⟨[(1,.clos g [] cap),(8,.arr (kE k)),(9,i64 k.length),(10,i64 0),(5,.emp)],[],1,22⟩
 |i+1=>⟨[(1,.clos g [] cap),(8,.arr (kE k)),(9,i64 k.length),(10,i64 ((i+1:Nat):Int)),(5,.lsl 1 0 (i+1) none 2)],[(1,some ⟨98,2,kE ((k.take (i+1)).map f)⟩)],2,22⟩
theorem kE_one(k:Ke):(kE k).all (·.all AV.one)=true:=by
 rw[List.all_eq_true];intro x hx;obtain⟨p,_,rfl⟩:=List.mem_map.1 hx;rfl
theorem rg_(k:Ke)(p:List Rat×List Rat):kE (k++[p])=kE k++[prC p]:=by simp[kE]
theorem fs_eachK(k:Ke)(g:Nat)(cap:List AV)(f:List Rat×List Rat→List Rat×List Rat)(hcap:∀c∈cap,Closed c)(hl:k.length≤1000)(hg:∀p∈k,FS g ((.agg (prC p)::cap).map coe) (.agg (prC (f p)))):FS 114 [.arr (kE k),.clos g [] cap] (.arr (kE (k.map f))):=by
 have hkl:(kE k).length=k.length:=bX_ k;have hcc:Closed (.clos g [] cap):=aE_ ac_ hcap;refine f_n Tryz.func114 ?_ ?_;exact aa_ (aA_ k) (aa_ hcc ac_);refine r_z 1 ?_;refine r_z 1 ?_;refine ab_ (r_z 3 ?_);refine av_ (fun _:Unit=>⟨[(5,.arr (kE (k.map f)))],[],1,22⟩) (fun _=>True) ?_ ?_;refine af_ (aq_ (ecS k g cap f) (fun i=>k.length- i) (fun i=>i≤k.length) 0 (Nat.zero_le _) ?_ ?_);rw[ecS.eq_1];exact s_x [] (fun hs=>e_5) (fun hs=>e_38);intro i hi;by_cases hlt:i< k.length
 ·obtain⟨p,hp⟩:∃p,k[i]?=some p:=⟨_,List.getElem?_eq_getElem hlt⟩
  have hg1:=hg p (List.mem_of_getElem? hp);have hlen:(k.take (i+1)).length=i+1:=by rw[List.length_take];omega
  have hnew:kE ((k.take i).map f)++[prC (f p)]=kE ((k.take (i+1)).map f):=by rw[br_ hp,List.map_append,List.map_singleton,rg_]
  cases i with
  |zero=>
   have hgt:(kE k)[((0:Int)).toNat]?=some (prC p):=fF_ hp _ rfl;rw[ecS.eq_1];refine q_z 1 ?_;refine ab_ (cT (ah_ (ab_ (af_ (s_r 4 ?_)))));refine i_x hgt ?_;refine l_x hgt ?_;refine a_z ?_;refine r_m 7 ?_;refine c_s (hg1) ?_;refine a_z ?_;refine r_m 2 ?_;refine a_z ?_;refine⟨0+1,by omega,by omega,?_⟩;rw[ecS.eq_2];rw[←hnew];refine s_x [(1,5)] (fun hs=>e_5) (fun hs=>?_)
   ·repeat' (first|exact au_|refine h_c ?_ ?_|exact aU_ hs (ca_ [f p])|exact au_e|refine ar_ ?_|exact am_|refine ae_ ?_ ?_|exact ai_ hs (aA_ k)|exact ai_ hs hcc|exact au_c)
  |succ i=>
   have hgt:(kE k)[(((i+1:Nat):Int)).toNat]?=some (prC p):=fF_ hp _ (by simp);have hone:=kE_one ((k.take (i+1)).map f);have hlen2:(kE ((k.take (i+1)).map f)).length=i+1:=by rw[bX_,List.length_map,List.length_take];omega
   rw[ecS.eq_2];refine q_z 1 ?_;refine ab_ (cT (ah_ (ab_ (af_ (s_r 4 ?_)))));refine i_x hgt ?_;refine l_x hgt ?_;refine a_z ?_;refine r_m 7 ?_;refine c_s (hg1) ?_;refine o_1 (.buildSlice te_26.h TZ.h rfl (by decide) rfl rfl rfl (by first|(simp;done)|(simp[a7_,ofV];done)|rfl)) ?_;refine o_2 (.append_l rfl rfl rfl te_26.h rfl rfl rfl rfl rfl d_o (by first|exact cw_ _|exact cu_ _|exact b6_ _|exact cx_ _|exact ct_ _|assumption|rfl|simp) (by first|rfl|exact cw_ _|exact cu_ _|exact b6_ _|exact cx_ _|exact ct_ _|simp) rfl (.lsl rfl (nle rfl)) TZ.h rfl TB.h d_o (by first|(simp[maxLen];done)|(simp[maxLen];omega))) ?_;refine o_0 (.assign rfl) ?_;refine ak_ ?_;refine r_m 2 ?_;refine a_z ?_;refine⟨i+1+1,by omega,by omega,?_⟩;rw[ecS.eq_2];refine s_x [(1,5)] (fun hs=>e_5) (fun hs=>?_)
   ·repeat' (first|exact au_|refine h_c ?_ ?_|exact ay_ hs hnew (ca_ _)|exact au_e|refine ar_ ?_|exact am_|refine ae_ ?_ ?_|exact ai_ hs (aA_ k)|exact ai_ hs hcc|exact au_c)
 have hge:i=k.length:=by omega
 cases i with
 |zero=>
  have hk0:k=[]:=List.eq_nil_of_length_eq_zero hge.symm;subst hk0;rw[ecS.eq_1];refine q_z 1 ?_;refine ab_ (cF (ao_ ⟨(),trivial,?_⟩));exact s_e []
 |succ i=>
  have hlen2:(kE (k.map f)).length=i+1:=by rw[bX_,List.length_map];omega
  rw[ecS.eq_2,hge,List.take_length];refine q_z 1 ?_;refine ab_ (cF (ao_ ⟨(),trivial,?_⟩));refine s_x [] (fun hs=>?_) (fun hs=>?_)
  ·repeat' (first|exact aD_|refine an_ rfl ?_ ?_|(refine Cv.shut hs rfl (aB_ rfl) (by simp) ?_;exact ay_ hs (by rw[List.drop_zero];exact List.take_of_length_le (by simp)) (ca_ _))|exact au_c)
  ·repeat' (first|exact au_|refine h_c ?_ ?_|exact au_e|refine ar_ ?_|exact am_|refine ae_ ?_ ?_|(refine Cv.shut hs rfl (aB_ rfl) (by simp) ?_;exact ay_ hs (by rw[List.drop_zero];exact List.take_of_length_le (by simp)) (ca_ _))|exact au_c)
 rintro _ _;refine r_z 2 ?_;exact ag_ (t_e (aA_ _))
theorem fs_moved(k:Ke)(l:Rat)(g:List Rat)(a:Rat)(hl:k.length≤1000)(hk:∀p∈k,(dS_ [a,1] p.1∧p.1.length≤274877906944)∧dS_ [a,1] p.2∧p.2.length≤274877906944)(hg:dS_ [a,1] g)(hgl:g.length≤274877906944):FS 43 [.agg (eqC k l g),.agg (qC a)] (.agg (eqC (mvK a k) l (compP [a,1] g))):=by
 have h1:=fs_eachK k 115 [bQ a] (fun p=>(compP [a,1] p.1,compP [a,1] p.2)) (aa_ (bf_ a) ac_) hl fun p hp=>rF_ a p (hk p hp).1 (hk p hp).2;have h2:=kL_ g a hg hgl;have hcl:=bv_ k l g;refine f_c Tryz.func43 ?_;refine r_z 3 ?_;refine AWp.ent (st':=⟨[(2,.aptr [eqC k l g] 0 0),(3,bQ a),(4,.lptr 1 0 0)],[(1,some ⟨58,5,[.emp::(zC++[.emp])]⟩)],2,16⟩) ?_ ?_;refine s_x [(1,4)] (fun hs=>?_) (fun hs=>?_)
 ·repeat' (first|exact aD_|refine an_ rfl ?_ ?_|exact Cv.boxp hs rfl (aB_ rfl) rfl hcl|exact Cv.boxp hs rfl (aB_ rfl) rfl (aN_ a)|exact au_c)
 ·repeat' (first|exact au_|refine h_c ?_ ?_|exact au_e|refine ar_ ?_|exact am_|refine ae_ ?_ ?_|exact Cv.boxp hs rfl (aB_ rfl) rfl hcl|exact Cv.boxp hs rfl (aB_ rfl) rfl (aN_ a)|exact au_c)
 refine ab_ (r_d hmix 12 ?_);refine c_s (h1) ?_;refine c_s (h2) ?_;refine a_2 ?_;refine ak_ (n_k ?_);exact ag_ (c_e (aw_ (bv_ _ _ _)))
theorem spC00:spC 0 0=[.arr [],bln false,.arr [],.arr [],bln false,.arr []]:=by unfold spC;rw[qC0];rfl
theorem gU_(k:Ke)(l:Rat)(g:List Rat)(h:okKe k)(hg:degP g≤20)(hgl:g.length≤1099511627776):FS 42 [.agg (eqC k l g++[.arr [],bln false,.arr [],.arr [],bln false,.arr []])] (bln false):=by
 have:=d5_ k l g 0 0 h (by decide) (by decide) Rat.le_refl hg hgl;rw[spC00] at this;exact this
theorem fs_upto0(k:Ke)(u:List Rat)(h:okUpK k 0 u)(hl:k.length≤1000):FS 45 [.arr (kE k),.agg [.arr [],bln false,.arr []],.arr (pE u)] (.arr (pE (upK k 0 u))):=by
 have:=fs_uptoK k 0 u h hl;rw[qC0] at this;exact this
structure OkSe (k:Ke)(l:Rat)(g:List Rat)(a:Rat)(n:Nat):Prop where
 ke:okKe k
 dg:degP g≤20
 mv:∀p∈k,(dS_ [a,1] p.1∧p.1.length≤274877906944)∧dS_ [a,1] p.2∧p.2.length≤274877906944
 mg:dS_ [a,1] g
 gl:g.length≤274877906944
 sl:sm l
 sg:smL (compP [a,1] g)
 gl2:(compP [a,1] g).length≤1099511627776
 up:∀r,r≤n→okUpK (mvK a k) 0 (seK (mvK a k) (compP [a,1] g) l n r)
 us:∀r,r≤n→smL (upK (mvK a k) 0 (seK (mvK a k) (compP [a,1] g) l n r))∧(upK (mvK a k) 0 (seK (mvK a k) (compP [a,1] g) l n r)).length≤1099511627776
 ss:∀r,r≤n→smL (bd_ (upK (mvK a k) 0 (seK (mvK a k) (compP [a,1] g) l n r)) l)
def seS(k:Ke)(l:Rat)(g:List Rat)(a:Rat)(n:Nat):Nat→AState
 |r=>⟨[(2,i64 n),(9,.lptr 1 0 0),(10,.arr (pE (seK (mvK a k) (compP [a,1] g) l n r))),(29,i64 ((n:Int)+1)),(30,i64 r)],[(1,some ⟨58,5,[eqC (mvK a k) l (compP [a,1] g)]⟩)],2,47⟩
theorem rR_(k:Ke)(l:Rat)(g:List Rat)(a:Rat)(n:Nat)(hn:n≤40)(hok:OkSe k l g a n):FS 11 [.agg (eqC k l g),.agg (qC a),i64 n] (.tup [.arr (pE (seK (mvK a k) (compP [a,1] g) l n (n+1))),i64 0]):=by
 have hcl:=bv_ k l g;have hcm:=bv_ (mvK a k) l (compP [a,1] g);have hkl:=hok.ke.1;have hml:(mvK a k).length=k.length:=by simp[mvK]
 have hw:=gU_ k l g hok.ke hok.dg (by have:=hok.gl;omega);have hm:=fs_moved k l g a (by omega) hok.mv hok.mg hok.gl;refine f_c Tryz.func11 ?_;refine r_z 4 ?_;refine r_z 5 ?_;refine ab_ (af_ (r_c 3 (hw) ?_));refine a_z ?_;refine cF (q_z 7 ?_);refine cF (ah_ (r_c 6 (hm) ?_));refine a_z ?_;refine r_z 1 ?_;refine ab_ (r_z 3 ?_);refine av_ (fun _:Unit=>⟨[(10,.arr (pE (seK (mvK a k) (compP [a,1] g) l n (n+1))))],[],1,47⟩) (fun _=>True) ?_ ?_;refine af_ (aq_ (seS k l g a n) (fun r=>n+1- r) (fun r=>r≤n+1) 0 (Nat.zero_le _) ?_ ?_);simp only[seS.eq_1];exact s_f [(1,9)];intro r hr;rw[seS.eq_1];by_cases hlt:r< n+1;have hup:=fs_upto0 (mvK a k) _ (hok.up r (by omega)) (by omega);have hus:=hok.us r (by omega);have hsc:=d7_ _ l hus.1 hok.sl hus.2;have had:=i0_ (compP [a,1] g) _ hok.sg (hok.ss r (by omega)) hok.gl2 (Nat.le_trans (db_ _ _) hus.2)
 have hcu:=fs_cut (addP (compP [a,1] g) (bd_ (upK (mvK a k) 0 (seK (mvK a k) (compP [a,1] g) l n r)) l)) n (by
  have h1:=gE_ (compP [a,1] g) (bd_ (upK (mvK a k) 0 (seK (mvK a k) (compP [a,1] g) l n r)) l);have h2:=db_ (upK (mvK a k) 0 (seK (mvK a k) (compP [a,1] g) l n r)) l;have:=hok.gl2;have:=hus.2;omega) (by omega)
 refine q_z 1 ?_;refine ab_ (cT (ah_ (ab_ (af_ (r_d hmix 14 ?_)))));refine c_s (hup) ?_;refine c_s (hsc) ?_;refine c_s (had) ?_;refine c_s (hcu) ?_;refine a_1 ?_;refine ak_ (n_k ?_);refine r_m 2 ?_;refine a_z ?_;refine⟨r+1,by omega,by omega,?_⟩;simp only[seS.eq_1];rw[seK];exact s_f [(1,9)];have hge:r=n+1:=by omega
 subst hge;refine q_z 1 ?_;refine ab_ (cF (ao_ ⟨(),trivial,?_⟩));exact s_e [];rintro _ _;refine r_z 3 ?_;refine ag_ (Fin.many ⟨_,_,rfl,rfl,⟨_,_,rfl,rfl,rfl⟩⟩ (nle rfl) ?_);exact ae_ (ai_ as_ (ap_ _)) (ae_ (ai_ as_ (ad_ _)) am_)
theorem lN_{k:Ke}(hkl:k.length≤3)(h4:∀p∈k,p.1.length≤4∧p.2.length≤4):okKe k:=by
 refine⟨by omega,?_,fun p hp=>by have:=h4 p hp;omega⟩;rw[List.any_eq_false];intro p hp;have h:=h4 p hp;have a1:=bc_ p.1;have a2:=bc_ p.2
 have:¬(12< if degP p.2> degP p.1 then degP p.2 else degP p.1):=by
  unfold degP;split <;> omega
 unfold bigP;simpa using this
theorem degP_le(g:List Rat){n:Nat}(h:g.length≤n+1):degP g≤n:=by
 have:=bc_ g;unfold degP;omega
theorem sF_{k:Ke}{l:Rat}{g:List Rat}{a:Rat}{n:Nat}(hn:n≤40)(hkl:k.length≤3)(h4:∀p∈k,p.1.length≤4∧p.2.length≤4)(hb:∀p∈k,bdL p.1 20∧bdL p.2 20)(hg:g.length≤5)(bg:bdL g 20)(hl:qs l≤20)(ha:qs a≤20):OkSe k l g a n:=by
 obtain⟨KA,KB,hk,A0,B0,IA,IBB⟩:=KHS_tame hkl h4 hb;obtain⟨ha2,hd,d0⟩:=sI_ ha;obtain⟨hl2,hld,l0⟩:=sI_ hl;obtain⟨KG,HG⟩:=nx_ g bg;have HG:=HG.mono (show _≤101 by omega);obtain⟨KA',KB',hk',A0',B0',IA',IBB'⟩:=sH_ hk A0 B0 IA IBB d0 hd ha2;obtain⟨KG',HG'⟩:=HS_shift' (N:=4) d0 hd ha2 HG (by omega);have HG':=HG'.mono (show _≤3000 by omega);have lg:=em_ a g;have hkl':(mvK a k).length≤900:=by unfold mvK;simp;omega
 have S:=fun r (hr:r≤1000)=>seK_HS (k:=mvK a k) (G:=compP [a,1] g) (L:=l) hk' hkl' (by omega) (by omega) A0' B0' IA' IBB' HG' l0 hld hl2 hn r hr;have U:=fun r (hr:r≤1000) (K:Rat) (H:HS (seK (mvK a k) (compP [a,1] g) l n r) K (20000* r+1))=>nE_ (a:=0) (d:=1) hk' hkl' (by have:=kd_ (mvK a k) (compP [a,1] g) l n r;omega) H (by decide) (IB.one.mono (by omega)) ((IB.zero 20).eq (by grind)) (by decide) (by omega) A0' B0' IA' IBB' (by omega);refine⟨lN_ hkl h4,by have:=degP_le g (n:=4) (by omega);omega,fun p hp=>?_,?_,by omega,by unfold sm;omega,fI_ (HG'.bdL (by omega)) (by omega),by omega,fun r hr=>(S r (by omega)).2,fun r hr=>?_,fun r hr=>?_⟩;obtain⟨h5,h6⟩:=h4 p hp;exact⟨⟨gd_ (N:=3) d0 hd ha2 ha (by omega) (by omega) (by omega) _ (by omega) (hk.a p hp),by omega⟩,gd_ (N:=3) d0 hd ha2 ha (by omega) (by omega) (by omega) _ (by omega) (hk.b p hp),by omega⟩;exact gd_ (N:=4) d0 hd ha2 ha (by omega) (by omega) (by omega) _ (by omega) HG;obtain⟨K,H⟩:=(S r (by omega)).1;obtain⟨u1,u2,_⟩:=U r (by omega) K H;have hl:=kd_ (mvK a k) (compP [a,1] g) l n r;exact⟨fI_ (u1.bdL (by omega)) (by omega),by omega⟩;obtain⟨K,H⟩:=(S r (by omega)).1;obtain⟨u1,u2,_⟩:=U r (by omega) K H;exact fI_ ((u1.k l0 hld hl2).bdL (by omega)) (by omega)
theorem sB_(k:Ke):k.any bigP=k.any bigR:=by
 congr 1;exact funext sx_
theorem qS_{k:Ke}(h:vaB k=true)(h2:∀p∈k,p.1.length≤1099511627776∧p.2.length≤1099511627776):okKe k:=by
 unfold vaB at h;simp only[Bool.and_eq_true,Bool.not_eq_true',decide_eq_true_eq] at h;exact⟨h.2,by rw[sB_];exact h.1,h2⟩
theorem pI_(k:Ke)(h:vaB k=false)(hl:k.length≤1000)(h2:∀p∈k,p.1.length≤1099511627776∧p.2.length≤1099511627776):FS 125 [.arr (kE k)] (i64 2):=by
 have hkl:(kE k).length=k.length:=bX_ k;have hc:=hh_ k 173 [] bigP ac_ (by omega) (fun p hp=>ma_ p (h2 p hp).1 (h2 p hp).2) rfl;by_cases h8:8< k.length;refine f_n Tryz.func125 ?_ ?_;exact aa_ (aA_ k) ac_;refine r_z 1 ?_;refine ab_ (s_r 7 ?_);refine a_2 ?_;refine o_0 (.bin rfl rfl (vT a3_ (decide_eq_true (by omega)))) ?_;refine a_z ?_;refine cT (r_z 1 ?_);exact ag_ (t_e (ad_ _))
 have hb:k.any bigP=true:=by
  unfold vaB at h;rw[decide_eq_true (by omega:k.length≤8),Bool.and_true] at h;rw[sB_];simpa using h
 rw[hb] at hc;refine f_n Tryz.func125 ?_ ?_;exact aa_ (aA_ k) ac_;refine r_z 1 ?_;refine ab_ (s_r 7 ?_);refine a_2 ?_;refine o_0 (.bin rfl rfl (vF a3_ (decide_eq_false (by omega)))) ?_;refine c_s (hc) ?_;refine a_z ?_;refine cT (r_z 1 ?_);exact ag_ (t_e (ad_ _))
theorem po_(k:Ke)(a b:Rat)(h:vaB k=false)(hl:k.length≤1000)(h2:∀p∈k,p.1.length≤1099511627776∧p.2.length≤1099511627776):FS 91 [.arr (kE k),.agg (spC a b)] (bln true):=by
 have h1:=pI_ k h hl h2;refine f_n Tryz.func91 ?_ ?_;exact aa_ (aA_ k) (aa_ (a0_ _ _) ac_);refine r_z 2 ?_;refine r_c 9 (h1) ?_;refine o_0 (.bin rfl rfl (vT bu_ (rfl))) ?_;refine a_z ?_;exact ag_ (t_e (ad_ _))
theorem ky_(k:Ke)(l:Rat)(g:List Rat)(a b:Rat)(h:vaB k=false∨20< degP g)(hl:k.length≤1000)(h2:∀p∈k,p.1.length≤1099511627776∧p.2.length≤1099511627776)(ha:sm a)(hb:sm b)(hab:a≤b)(hgl:g.length≤1099511627776):FS 42 [.agg (eqC k l g++spC a b)] (bln true):=by
 have hcl:∀c∈eqC k l g++spC a b,Closed c:=fun c hc=>(List.mem_append.1 hc).elim (bv_ k l g c) (a4_ a b c);have hd:=b7_ g hgl;cases e:vaB k with
 |false=>
  have h1:=po_ k a b e hl h2;refine f_c Tryz.func42 ?_;refine r_z 2 ?_;refine r_c 14 (h1) ?_;refine a_z ?_;exact ag_ (t_e (ad_ _))
 |true=>
  have h1:=iP_ k a b (qS_ e h2) ha hb hab
  have h20:20< degP g:=by
   rcases h with h|h
   rw[e] at h;cases h;exact h
  refine f_c Tryz.func42 ?_;refine r_z 2 ?_;refine r_c 14 (h1) ?_;refine c_s (hd) ?_;refine al_ rfl rfl rfl (.bin rfl rfl (vT a3_ (decide_eq_true (by omega)))) rfl rfl ?_;refine a_z ?_;exact ag_ (t_e (ad_ _))
theorem rT_(l:List NRow)(ho:okR l)(hl:l.length≤9223372036854775807):
    FS 7 [.arr (nR l)] (if 40< l.length then .tup [.arr (pE []),.arr (rE []),bln false] else .tup [.arr (pE (nL l)),.arr (rE (rP (nL l))),bln (tameB l 5||decide (20< degP (nL l)))]):=by
 have hrl:(nR l).length=l.length:=by simp[nR]
 have hcl:=ax_ (by_ l);by_cases h40:40< l.length;rw[if_pos h40];refine f_c Tryz.func7 ?_;refine r_z 3 ?_;refine ab_ (s_r 3 ?_);refine a_2 ?_;refine o_0 (.bin rfl rfl (vT a3_ (decide_eq_true (by omega)))) ?_;refine ak_ ?_;refine cT (r_z 3 ?_);refine ag_ (Fin.many ⟨_,_,rfl,rfl,⟨_,_,rfl,rfl,⟨_,_,rfl,rfl,rfl⟩⟩⟩ (nle rfl) ?_);exact ae_ (Cv.emp _) (ae_ (Cv.emp _) (ae_ (ai_ as_ (ad_ _)) am_));rw[if_neg h40];have hb:=kS_ l (by omega) ho;have ht:=gW_ l 5 hl (by decide);have hd:=dI_ (rP (nL l)) (by simp[nL];omega);rw[vR_rP] at hd;cases e:tameB l 5 with
 |true=>
  rw[e] at ht;refine f_c Tryz.func7 ?_;refine r_z 3 ?_;refine ab_ (s_r 3 ?_);refine a_2 ?_;refine o_0 (.bin rfl rfl (vF a3_ (decide_eq_false (by omega)))) ?_;refine ak_ ?_;refine cF (ah_ (r_c 7 (hb) ?_));refine a_z ?_;refine r_c 12 (ht) ?_;refine a_z ?_;refine ag_ (Fin.many ⟨_,_,rfl,rfl,⟨_,_,rfl,rfl,⟨_,_,rfl,rfl,rfl⟩⟩⟩ (nle rfl) ?_);exact ae_ (ai_ as_ (ap_ _)) (ae_ (ai_ as_ (aR_ _)) (ae_ (ai_ as_ (ad_ _)) am_))
 |false=>
  rw[e] at ht;refine f_c Tryz.func7 ?_;refine r_z 3 ?_;refine ab_ (s_r 3 ?_);refine a_2 ?_;refine o_0 (.bin rfl rfl (vF a3_ (decide_eq_false (by omega)))) ?_;refine ak_ ?_;refine cF (ah_ (r_c 7 (hb) ?_));refine a_z ?_;refine r_c 12 (ht) ?_;refine c_s (hd) ?_;refine a_z ?_;refine ag_ (Fin.many ⟨_,_,rfl,rfl,⟨_,_,rfl,rfl,⟨_,_,rfl,rfl,rfl⟩⟩⟩ (nle rfl) ?_);exact ae_ (ai_ as_ (ap_ _)) (ae_ (ai_ as_ (aR_ _)) (ae_ (ai_ as_ (ad_ _)) am_))
def fiO(A:Nat→Nat→Rat)(n g:Nat)(cap:List AV)(i:Nat):AState:=⟨[(0,i64 n),(1,.clos g [] cap),(5,.lsl 1 0 n (some n) 1),(11,i64 n),(12,i64 i)],mzH 3 32 46 (foE (fun _=>n) (fun x=>x) n i) (fiL A n i),40,35⟩
def fiE(A:Nat→Nat→Rat)(n:Nat):AState:=⟨[(5,.lsl 1 0 n (some n) 1)],mzH 3 32 46 (foE (fun _=>n) (fun x=>x) n n) (fiL A n n),40,35⟩
def fiI(A:Nat→Nat→Rat)(n g:Nat)(cap:List AV)(i:Nat):Nat→AState
 |0=>⟨[(0,i64 n),(1,.clos g [] cap),(5,.lsl 1 0 n (some n) 1),(6,i64 i),(11,i64 n),(12,i64 i),(15,i64 n),(16,i64 0)],mzH 3 32 46 (foE (fun _=>n) (fun x=>x) n i) (fiL A n i),40,35⟩
 |j+1=>⟨[(0,i64 n),(1,.clos g [] cap),(5,.lsl 1 0 n (some n) 1),(6,i64 i),(11,i64 n),(12,i64 i),(15,i64 n),(16,i64 ((j+1:Nat):Int))],mzH 3 32 46 (foE (wJ n i (j+1)) (fun x=>x) n (i+1)) (fiL A n i++[pE (tabP (j+1) (A i))]),40,35⟩
theorem fi_f{r:Ren}{hp hp':Nat→Option ABlk}{fr fr':Fr}{g:Nat}{cap:List AV}(hs:Shr r hp hp')(hcc:Closed (.clos g [] cap))(h:CvF r hp hp' fr fr':=by repeat' (first|exact aD_|refine an_ rfl ?_ ?_|exact ai_ hs hcc|exact ai_ hs (ad_ _)|exact Cv.sl rfl rfl rfl|(refine Cv.loE hs ?_ (ad_ _);simp[i64];done))):CvF r hp hp' fr fr':=h
theorem ll_(A:Nat→Nat→Rat)(n g:Nat)(cap:List AV)(hn:n≤25)(hcap:∀c∈cap,Closed c)(hg:∀i j:Nat,i< n→j< n→FS g ((i64 i::i64 j::cap).map coe) (.agg (qC (A i j)))):
    XSpecT Tryz.prog 54 [i64 n,.clos g [] cap] [] 1 (.lsl 1 0 n (some n) 1) (mzH 3 32 46 (mzO 3 (fun _=>n) (fun x=>x) n) (fiL A n n)) 40:=by
 have hcc:Closed (.clos g [] cap):=aE_ ac_ hcap;refine XSpecT.enter (t:=4) Tryz.func54 rfl (by kernel_rfl) rfl rfl rfl rfl rfl ?_;refine r_z 1 ?_;refine r_z 3 ?_;refine ab_ (r_z 3 ?_);refine av_ (fun _:Unit=>fiE A n) (fun _=>True) ?_ ?_
 ·refine af_ (aq_ (fiO A n g cap) (fun i=>n- i) (fun i=>i≤n) 0 (Nat.zero_le _) ?_ ?_)
  rw[fiO.eq_1];refine SEntT.ent (SEntT.mz (fun x=>cond (Nat.beq x 1) 3 x) _ (List.replicate n [.emp]) _ (by simp) rfl (fun i j h1 h2 h3 h4 _=>by rw[fm_] at h2 h4;omega) rfl (by rw[foE_0]) ?_ ?_ ?_);intro i e hi;exact absurd (hj_ hi).1 (by omega);intro hs;rw[foE_0];exact aU_ hs fun e he c hc=>by rw[(List.mem_replicate.1 he).2,List.mem_singleton] at hc;rw[hc];exact bq_
  exact fun hs=>fi_f hs hcc;intro i hi;rw[fiO.eq_1];by_cases hlt:i< n;rotate_left;have hge:i=n:=by omega
  subst hge;refine q_z 1 ?_;refine ab_ (cF (ao_ ⟨(),trivial,?_⟩));refine SEntT.ent (SEntT.mz (fun x=>x) _ _ _ (by simp;omega) rfl (fun i j _ _ _ _ e=>e) rfl rfl ?_ ?_ ?_);intro k e hk;obtain⟨h1,rfl⟩:=hj_ hk;exact⟨bB_ (cM_ h1),aG_ _⟩;exact fun hs=>fu_ hs (by omega) fun k hk=>by rw[bB_ (cM_ hk)];rfl
  exact fun hs=>fi_f hs hcc;refine q_z 1 ?_;refine ab_ (cT (ah_ (ab_ (af_ (r_z 2 ?_)))));refine r_z 2 ?_;refine AWp.cutB (fun _:Unit=>fiI A n g cap i n) (fun _=>True) ?_ ?_;refine af_ (aq_ (fiI A n g cap i) (fun j=>n- j) (fun j=>j≤n) 0 (Nat.zero_le _) ?_ ?_);rw[fiI.eq_1];refine SEntT.ent (SEntT.mz (fun x=>x) _ _ _ (by simp;omega) rfl (fun i j _ _ _ _ e=>e) rfl rfl ?_ ?_ ?_);intro k e hk;obtain⟨h1,rfl⟩:=hj_ hk;exact⟨bB_ (cM_ h1),aG_ _⟩;exact fun hs=>fu_ hs (by omega) fun k hk=>by rw[bB_ (cM_ hk)];rfl
  exact fun hs=>fi_f hs hcc;intro j hj;by_cases hjn:j< n
  ·have hg1:=hg i j hlt hjn
   cases j with
   |zero=>
    rw[fiI.eq_1];refine q_z 1 ?_;refine ab_ (cT (ah_ (ab_ (af_ (r_z 2 ?_)))));refine r_d hmix 14 ?_;refine a_5 ?_;refine az_ (.load_l1 rfl rfl (foE_ge' (Nat.le_refl _) hlt _ (by omega)) TG.h rfl) rfl rfl ?_;refine c_s (hg1) ?_;refine a_3 ?_;refine o_1n (.store rfl rfl (foE_ge' (Nat.le_refl _) hlt _ (by omega)) rfl rfl rfl TS.h (nle rfl)) ?_;refine ak_ (n_k ?_);refine r_m 2 ?_;refine a_z ?_;refine⟨0+1,by omega,by omega,?_⟩;rw[fiI.eq_2];refine SEntT.ent (SEntT.mz (fiR i 54) _ (foE (wJ n i (0+1)) (fiR i 54) n (i+1)) _ (by simp;omega) (fiR_0 _ _) (fun x y _ h2 _ h4 e=>i3_ (m:=40) (Nat.le_refl _) (by decide) x y (by simp at h2;omega) (by simp at h4;omega) e) ?_ ?_ ?_ ?_ ?_);rw[fiR_1,←fi_set0 hlt (0+((i:Nat):Int).toNat) (by omega)];rfl;rw[dJ_ hlt,dJ_ hlt];intro k e hk;rcases r6_ hk with⟨h1,rfl⟩|⟨rfl,rfl⟩
    ·rw[eb_ (by omega)]
     refine⟨?_,aG_ _⟩
     repeat rw[aV_ (by omega)]
     exact bB_ (cM_ h1)
    rw[gX_];exact⟨rfl,aG_ _⟩
    exact fun hs=>fu_ hs (by omega) fun k hk=>by
     by_cases hki:k< i;rw[bB_ (jQ_ hki)];rfl;obtain rfl:k=i:=by omega
     rw[bB_ gY_];rfl
    exact fun hs=>fi_f hs hcc
   |succ j=>
    rw[fiI.eq_2];have hlen:(pE (tabP (j+1) (A i))).length=j+1:=by simp[pE]
    have hrw:∀(k:Nat) (B:Option ABlk),k≠i+2→cellF (lookB ((k,B)::mzH 3 32 46 (foE (wJ n i (j+1)) (fun x=>x) n (i+1)) (fiL A n i++[pE (tabP (j+1) (A i))]))) (i+2)=some ⟨46,3,pE (tabP (j+1) (A i))⟩:=fun k B hk=>b2_ (by rw[aV_ hk];exact bB_ gY_) (show(3:Nat)≠0 by decide);have hi53:(53:Nat)≠i+2:=by omega
    refine q_z 1 ?_;refine ab_ (cT (ah_ (ab_ (af_ (r_z 2 ?_)))));refine r_d hmix 14 ?_;refine a_5 ?_;refine az_ (.load_l1 rfl rfl (foE_lt' (Nat.lt_succ_self _) wJ_ge _ (by omega)) TG.h rfl) rfl rfl ?_;refine c_s (hg1) ?_;refine a_1 ?_;refine o_2 (.append_l rfl rfl rfl te_32.h rfl rfl (hrw 53 _ hi53) rfl rfl hlen (b6_ _) (by rfl) rfl (.lsl rfl (nle rfl)) TZ.h rfl TB.h (by first|rfl|assumption|(simp;done)|(simp;omega)|omega) (by first|(simp[maxLen];done)|(simp[maxLen];omega))) ?_;refine a_1 ?_;refine o_1n (.store rfl rfl (foE_lt' (Nat.lt_succ_self _) wJ_ge _ (by omega)) rfl rfl rfl TS.h (nle rfl)) ?_;refine ak_ (n_k ?_);refine r_m 2 ?_;refine a_z ?_;refine⟨j+1+1,by omega,by omega,?_⟩;rw[fiI.eq_2];refine SEntT.ent (SEntT.mz (fiR i 54) _ (foE (wJ n i (j+1+1)) (fiR i 54) n (i+1)) _ (by simp;omega) (fiR_0 _ _) (fun x y _ h2 _ h4 e=>i3_ (m:=40) (Nat.le_refl _) (by decide) x y (by simp at h2;omega) (by simp at h4;omega) e) ?_ ?_ ?_ ?_ ?_);rw[fiR_1,←fi_set hlt (0+((i:Nat):Int).toNat) (by omega)];rfl;rw[dJ_ hlt,dJ_ hlt];intro k e hk;rcases r6_ hk with⟨h1,rfl⟩|⟨rfl,rfl⟩
    ·rw[eb_ (by omega)]
     refine⟨?_,aG_ _⟩
     repeat rw[aV_ (by omega)]
     exact bB_ (jQ_ h1)
    rw[gX_];refine⟨?_,aG_ _⟩;rw[lu_ (j+1),eg_];rfl
    exact fun hs=>fu_ hs (by omega) fun k hk=>by
     by_cases hki:k< i;rw[bB_ (jQ_ hki)];rfl;obtain rfl:k=i:=by omega
     rw[bB_ gY_];rfl
    exact fun hs=>fi_f hs hcc
  have hge:j=n:=by omega
  obtain⟨j,rfl⟩:∃j',j=j'+1:=⟨j- 1,by omega⟩;rw[fiI.eq_2];refine q_z 1 ?_;refine ab_ (cF (ao_ ⟨(),trivial,?_⟩));rw[←hge,fiI.eq_2];refine SEntT.ent (SEntT.mz (fun x=>x) _ _ _ (by simp;omega) rfl (fun i j _ _ _ _ e=>e) rfl rfl ?_ ?_ ?_);intro k e hk;rcases r6_ hk with⟨h1,rfl⟩|⟨rfl,rfl⟩
  exact⟨bB_ (jQ_ h1),aG_ _⟩;exact⟨bB_ gY_,aG_ _⟩
  exact fun hs=>fu_ hs (by omega) fun k hk=>by
   by_cases hki:k< i;rw[bB_ (jQ_ hki)];rfl;obtain rfl:k=i:=by omega
   rw[bB_ gY_];rfl
  exact fun hs=>fi_f hs hcc;rintro _ _;obtain⟨m,rfl⟩:∃m,n=m+1:=⟨n- 1,by omega⟩;rw[fiI.eq_2,fiL_snoc,r4_ (w:=wJ (m+1) i (m+1)) (w':=fun _=>m+1) (s':=fun x=>x) (fun k hk=>⟨by unfold wJ;cases Nat.blt k i <;> rfl,rfl⟩)];refine r_m 2 ?_;refine a_z ?_;refine⟨i+1,by omega,by omega,?_⟩;rw[fiO.eq_1];refine SEntT.ent (SEntT.mz (fun x=>x) _ _ _ (by simp;omega) rfl (fun i j _ _ _ _ e=>e) rfl rfl ?_ ?_ ?_);intro k e hk;obtain⟨h1,rfl⟩:=hj_ hk;exact⟨bB_ (cM_ h1),aG_ _⟩;exact fun hs=>fu_ hs (by omega) fun k hk=>by rw[bB_ (cM_ hk)];rfl
  exact fun hs=>fi_f hs hcc
 rintro _ _;show AWp _ _ _ _ ⟨[(5,.lsl 1 0 n (some n) 1)],mzH 3 32 46 (foE (fun _=>n) (fun x=>x) n n) (fiL A n n),40,35⟩;rw[foE_n];refine r_z 2 ?_;refine ag_ (FinXT.of (SEntT.mz (fun x=>x) _ _ _ (by simp;omega) rfl (fun i j _ _ _ _ e=>e) rfl rfl ?_ ?_ ?_));intro k e hk;obtain⟨h1,rfl⟩:=hj_ hk;exact⟨bB_ (cM_ h1),aG_ _⟩;exact fun hs=>gF_ (by omega) fun k hk=>by rw[bB_ (cM_ hk)];rfl
 exact fun hs=>fi_f hs hcc
def inQ(p:List Rat)(a b:Rat):Rat:=evalP (aJ_ p) b- evalP (aJ_ p) a
structure OkIn (p:List Rat)(a b:Rat):Prop where
 s:smL p
 l:p.length≤1099511627775
 e1:cO_ (aJ_ p) b
 e2:cO_ (aJ_ p) a
 d:qs (evalP (aJ_ p) b)+qs (evalP (aJ_ p) a)≤549755813888
theorem iR_(p:List Rat)(a b:Rat)(h:OkIn p a b):FS 75 [.arr (pE p),.agg (spC a b)] (.agg (qC (inQ p a b))):=by
 refine f_c Tryz.func75 ?_;refine r_z 2 ?_;refine r_c 3 (iX_ p h.s h.l) ?_;refine a_z ?_;refine ab_ (r_d hmix 10 ?_);refine c_s (dU_ _ b h.e1) ?_;refine c_s (dU_ _ a h.e2) ?_;refine c_s (gm_ _ _ h.d) ?_;refine a_1 ?_;refine ak_ (n_k ?_);exact ag_ (c_e (aC_ _))
def bKe(k:Ke):AV:= .aptr [[.arr (kE k)]] 0 0
def bSp(a b:Rat):AV:= .aptr [spC a b] 0 0
theorem cH_(k:Ke):Closed (bKe k):=aM_ (aa_ (aA_ k) ac_)
theorem bg_(a b:Rat):Closed (bSp a b):=aM_ (a4_ a b)
theorem pw_(k:Ke)(a b:Rat)(i j:Nat)(p q:List Rat×List Rat)(hp:k[i]?=some p)(hq:k[j]?=some q)(hl:k.length≤1000)(hm:okMul p.2 q.1)(ho:OkIn (mulP p.2 q.1) a b):
    FS 156 [i64 i,i64 j,bKe k,bSp a b] (.agg (qC (inQ (mulP p.2 q.1) a b))):=by
 have hkl:(kE k).length=k.length:=bX_ k;have h1:i< k.length:=(List.getElem?_eq_some_iff.1 hp).1;have h2:j< k.length:=(List.getElem?_eq_some_iff.1 hq).1;have g1:(kE k)[((i:Nat):Int).toNat]?=some (prC p):=fF_ hp _ (by simp);have g2:(kE k)[((j:Nat):Int).toNat]?=some (prC q):=fF_ hq _ (by simp);refine f_n Tryz.func156 ?_ ?_;exact aa_ (ad_ _) (aa_ (ad_ _) (aa_ (cH_ k) (aa_ (bg_ a b) ac_)));refine r_z 1 ?_;refine ab_ (r_d hmix 14 ?_);refine a_2 ?_;refine i_x g1 ?_;refine a_1 ?_;refine l_1 g1 ?_;refine a_2 ?_;refine i_x g2 ?_;refine a_1 ?_;refine l_1 g2 ?_;refine c_s (kO_ p.2 q.1 hm) ?_;refine c_s (iR_ _ a b ho) ?_;refine a_1 ?_;refine ak_ (n_k ?_);exact ag_ (c_e (aC_ _))
def maK(k:Ke)(a b:Rat)(i j:Nat):Rat:=inQ (mulP (k.getD i ([],[])).2 (k.getD j ([],[])).1) a b
structure OkMa (k:Ke)(a b:Rat):Prop where
 l:k.length≤8
 m:∀p∈k,∀q∈k,okMul p.2 q.1∧OkIn (mulP p.2 q.1) a b
theorem pu_(k:Ke)(a b:Rat)(h:OkMa k a b)(i j:Nat)(hi:i< k.length)(hj:j< k.length):FS 156 ((i64 i::i64 j::[bKe k,bSp a b]).map coe) (.agg (qC (maK k a b i j))):=by
 obtain⟨p,hp⟩:∃p,k[i]?=some p:=⟨_,List.getElem?_eq_getElem hi⟩;obtain⟨q,hq⟩:∃q,k[j]?=some q:=⟨_,List.getElem?_eq_getElem hj⟩;have ho:=h.m p (List.mem_of_getElem? hp) q (List.mem_of_getElem? hq);have e:maK k a b i j=inQ (mulP p.2 q.1) a b:=by unfold maK;rw[List.getD_eq_getElem?_getD,List.getD_eq_getElem?_getD,hp,hq];rfl
 rw[e];exact pw_ k a b i j p q hp hq (by have:=h.l;omega) ho.1 ho.2
theorem ic_(k:Ke)(a b:Rat)(h:OkMa k a b):
    XSpecT Tryz.prog 97 [.arr (kE k),.agg (spC a b)] [] 1 (.lsl 1 0 k.length (some k.length) 1) (mzH 3 32 46 (mzO 3 (fun _=>k.length) (fun x=>x) k.length) (fiL (maK k a b) k.length k.length)) 40:=by
 have hkl:(kE k).length=k.length:=bX_ k;have hl:=h.l;have hX:=(ll_ (maK k a b) k.length 156 [bKe k,bSp a b] (by omega) (aa_ (cH_ k) (aa_ (bg_ a b) ac_)) (pu_ k a b h)).x;refine XSpecT.enter (t:=4) Tryz.func97 rfl (by kernel_rfl) rfl rfl rfl rfl rfl ?_;refine r_z 3 ?_;refine AWp.ent (st':=⟨[(2,bKe k),(3,bSp a b)],[],1,9⟩) ?_ ?_;refine s_x [] (fun hs=>?_) (fun hs=>?_)
 ·repeat' (first|exact aD_|refine an_ rfl ?_ ?_|exact Cv.boxp hs rfl (aB_ rfl) rfl (aa_ (aA_ k) ac_)|exact Cv.boxp hs rfl (aB_ rfl) rfl (a4_ a b)|exact au_c)
 ·repeat' (first|exact au_|refine h_c ?_ ?_|exact au_e|refine ar_ ?_|exact am_|refine ae_ ?_ ?_|exact Cv.boxp hs rfl (aB_ rfl) rfl (aa_ (aA_ k) ac_)|exact Cv.boxp hs rfl (aB_ rfl) rfl (a4_ a b)|exact au_c)
 refine ab_ (AWp.regX (fr2:=[(6,i64 k.length),(7,.clos 156 [] [bKe k,bSp a b])]) (hp2:=[]) (nx2:=1) (fr3:=[]) 3 rfl rfl rfl rfl rfl rfl ?_ rfl rfl rfl hX (fun t x hx=>by cases hx) (fun t x hx=>by cases hx) ?_);refine az_ (.load_a1 rfl rfl TG.h rfl) rfl rfl ?_;refine az_ (.len rfl rfl rfl rfl rfl te_27.h) rfl rfl ?_;refine o_0 (.makeFunc rfl rfl) ?_;refine ak_ ?_;refine s_y [] (fun hs=>?_) (fun hs=>?_)
 ·repeat' (first|exact aD_|refine an_ rfl ?_ ?_|exact ai_ hs (aE_ ac_ (aa_ (cH_ k) (aa_ (bg_ a b) ac_)))|(refine Cv.loE hs ?_ (ad_ _);simp[i64,hkl];done)|exact au_c)
 ·repeat' (first|exact au_|refine h_c ?_ ?_|exact au_e|refine ar_ ?_|exact am_|refine ae_ ?_ ?_|exact ai_ hs (aE_ ac_ (aa_ (cH_ k) (aa_ (bg_ a b) ac_)))|(refine Cv.loE hs ?_ (ad_ _);simp[i64,hkl];done)|exact au_c)
 refine o_0 (.assign rfl) ?_;refine ak_ ?_;refine ag_ (FinXT.of (SEntT.mz (fun x=>x) _ _ _ (by simp;omega) rfl (fun i j _ _ _ _ e=>e) rfl rfl ?_ ?_ ?_));intro k' e hk;obtain⟨h1,rfl⟩:=hj_ hk;exact⟨bB_ (cM_ h1),aG_ _⟩;exact fun hs=>gF_ (by omega) fun k' hk=>by rw[bB_ (cM_ hk)];rfl
 exact fun hs=>an_ rfl (Cv.sl rfl rfl rfl) aD_
def mE(k:List (List Rat)):List (List AV):=k.map fun e=>[.arr (pE e)]
@[simp] theorem q5_ (k:List (List Rat)):(mE k).length=k.length:=by simp[mE]
theorem sr_(k:List (List Rat)):∀x∈mE k,∀c∈x,Closed c:=fun x hx=>by
 obtain⟨p,_,rfl⟩:=List.mem_map.1 hx;exact aa_ (ap_ _) ac_
theorem closed_mA(k:List (List Rat)):Closed (.arr (mE k)):=ax_ (sr_ k)
theorem oh_{k:List (List Rat)}{i:Nat}{p:List Rat}(h:k[i]?=some p):∀e,e=i→(mE k)[e]?=some [.arr (pE p)]:=fun e he=>by
 rw[he,mE,List.getElem?_map,h];rfl
def imS(k:List (List Rat))(g:Nat)(cap:List AV):Nat→AState
 |i=>⟨[(0,.arr (mE k)),(1,.clos g [] cap),(7,i64 k.length),(8,i64 i)],[],1,19⟩
theorem rl_(k:List (List Rat))(g:Nat)(cap:List AV)(i:Nat):imS k g cap i=⟨[(0,.arr (mE k)),(1,.clos g [] cap),(7,i64 k.length),(8,i64 i)],[],1,19⟩:=rfl
theorem l4_(k:List (List Rat))(g:Nat)(cap:List AV)(t:List Rat→Bool)(hcap:∀c∈cap,Closed c)(hl:k.length≤1099511627776)(hg:∀p∈k,FS g ((.arr (pE p)::cap).map coe) (bln (t p))):FS 127 [.arr (mE k),.clos g [] cap] (i64 (idxA t k 0)):=by
 have hcc:Closed (.clos g [] cap):=aE_ ac_ hcap;have hkl:(mE k).length=k.length:=q5_ k;refine f_c Tryz.func127 ?_;obtain⟨R,hR⟩:∃R,R=idxA t k 0:=⟨_,rfl⟩;rw[←hR];refine r_z 1 ?_;refine ab_ (r_z 3 ?_);refine av_ (fun _:Unit=>⟨[],[],1,19⟩) (fun _=>R= -1) ?_ ?_;refine af_ (aq_ (imS k g cap) (fun i=>k.length- i) (fun i=>i≤k.length∧idxA t (k.drop i) i=R) 0 ⟨Nat.zero_le _,by rw[hR];rfl⟩ ?_ ?_);simp only[rl_];exact s_x [] (fun hs=>e_39) (fun hs=>e_40);rintro i ⟨hi,hr⟩;rw[rl_];by_cases hlt:i< k.length;refine q_z 1 ?_;refine ab_ (cT (ah_ ?_));obtain⟨p,hp⟩:∃p,k[i]?=some p:=⟨_,List.getElem?_eq_getElem hlt⟩;have hgt:(mE k)[((i:Nat):Int).toNat]?=some [.arr (pE p)]:=oh_ hp _ (by simp);rw[ni_ hp,idxA] at hr;refine ab_ (af_ (r_z 2 ?_));refine s_r 6 ?_;refine a_3 ?_;refine i_x hgt ?_;refine l_1 hgt ?_;refine c_s (hg p (List.mem_of_getElem? hp)) ?_;refine ak_ ?_;refine aj_ rfl (fun h1=>?_) (fun h1=>?_);have h2:t p=true:=h1;rw[if_pos h2] at hr;refine r_z 2 ?_;refine ag_ (aH_ rfl ?_ ?_);rw[←hr];exact ad_ _;have h2:¬t p=true:=by rw[show t p=false from h1];decide
 rw[if_neg h2] at hr;refine ah_ (r_m 2 ?_);refine a_z ?_;refine⟨i+1,by omega,⟨hlt,hr⟩,?_⟩;simp only[rl_];exact s_x [] (fun hs=>e_39) (fun hs=>e_40);have hge:i=k.length:=by omega
 subst hge;refine q_z 1 ?_;refine ab_ (cF ?_);rw[List.drop_length] at hr;refine ao_ ⟨(),hr.symm,?_⟩;exact s_e [];rintro _ hr;refine r_z 1 ?_;refine ag_ (aH_ rfl ?_ ?_);rw[hr];rfl;exact ad_ _
theorem l6_(k:List (List Rat))(g:Nat)(cap:List AV)(t:List Rat→Bool)(hcap:∀c∈cap,Closed c)(hl:k.length≤1099511627776)(hg:∀p∈k,FS g ((.arr (pE p)::cap).map coe) (bln (t p)))(hcap2:cap.map coe=cap):FS 137 [.arr (mE k),.clos g [] cap] (bln (k.any t)):=by
 have hcc:Closed (.clos g [] cap):=aE_ ac_ hcap;have e:=hW_ t k 0 (Int.le_refl 0);have hi:=l4_ k g cap t hcap hl hg;refine f_c Tryz.func137 ?_;refine r_z 1 ?_;refine r_c 5 (hi) ?_;refine a_z ?_;refine ag_ (aH_ rfl ?_ ?_);rw[←e];rfl;exact ad_ _
theorem pr_(e:List Rat)(c:Nat)(x:Rat)(hx:e[c]?=some x):FS 128 [.arr (pE e),.aptr [[i64 c]] 0 0] (bln (decide (x≠0))):=by
 have hlt:c< e.length:=(List.getElem?_eq_some_iff.1 hx).1;have hl:(pE e).length=e.length:=by simp[pE]
 have g1:(pE e)[((c:Nat):Int).toNat]?=some (qC x):=by simp[pE,hx]
 refine f_c Tryz.func128 ?_;refine r_z 1 ?_;refine s_r 7 ?_;refine a_2 ?_;refine i_x g1 ?_;refine l_x g1 ?_;refine c_s (bt_ x) ?_;refine a_z ?_;refine ag_ (aH_ rfl ?_ ?_);rw[show decide (x≠0)=decide (sgZ x.num≠0) from decide_eq_decide.2 (not_congr sgZ_num_eq.symm)]
 first|rfl|(congr 1;cases hb:decide (sgZ x.num=0) with|true=>(have:=of_decide_eq_true hb;simp[this])|false=>(have:=of_decide_eq_false hb;simp[bln,bne,this]))
 exact ad_ _
end Go.Proofs.YtjkddcfoolilbaaGreatDoor
