/- Part V30 of the proof. -/
import Derived.Test.YtkbjakfniejkcaaGreatDoorV29
set_option linter.all false
namespace Go.Proofs.YtkbjakfniejkcaaGreatDoor
open Go.Abs
set_option maxRecDepth 100000
set_option maxHeartbeats 2000000









section
variable {a b:Rat}(h:a< b){k:Nat}(hk:1<=k/\k<=4)(ha:qs a<=20)(hb:qs b<=20)
include h hk ha hb
end
section
variable {a b a' b':Rat}(h:a< b)(h':a'< b'){k:Nat}(hk:1<=k/\k<=4)(ha:qs a<=20)(hb:qs b<=20)(ha':qs a'<=20)(hb':qs b'<=20)
include h h' hk ha hb ha' hb'
end


end Go.Proofs.YtkbjakfniejkcaaGreatDoor
namespace Go.Proofs.YtkbjakfniejkcaaGreatDoor
open Go.Abs Go.Deep Go.RowKit Go.WideShapes
set_option maxRecDepth 20000
def okN(r:ft):Prop:=lA r.1/\lA r.2.1/\r.2.2<=255
theorem numP_of{H:Type}{enc:TypeId×Value->H}{W:World}{base:Nat}{v:Value}{d:DataW H}{ps:List MemPlace}(hv:Value.okWide Tryz.prog W .any base 24 v)(h:DataW.Trod enc Tryz.prog W 0 (fun _=>true) true 24 v d ps):
    ∃r:ft,okN r/\RV (fun _=>False) (fun _=>none) W (.agg (nuC r.1 r.2.1 r.2.2)) v:=by
 obtain⟨n,m,l,j,_⟩:=tyN
 obtain⟨cs,rfl,_⟩:∃cs,v= .agg cs/\True:=by
  unfold Value.okWide at hv;rw[j] at hv;obtain⟨cs,i,_⟩:=hv;exact⟨cs,i,trivial⟩
 obtain⟨a,c⟩:=h;obtain⟨r,g,b,f,e⟩:=yX c;refine⟨r,⟨g,b,f⟩,cs,rfl,?_⟩;have k:cs.toList=[.int .i64 r.1,.int .i64 r.2.1,.int .u8 r.2.2]:=by simpa[Value.cells] using e
 rw[k];exact⟨_,_,rfl,rfl,_,_,rfl,rfl,_,_,rfl,rfl,rfl⟩
end Go.Proofs.YtkbjakfniejkcaaGreatDoor
namespace Go.Proofs.YtkbjakfniejkcaaGreatDoor
open Go.Abs
set_option maxRecDepth 20000
set_option maxHeartbeats 4000000
def nU(r:ft):Bool:=decide (¬((r.2.2:Int) % 4≠0)/\¬r.1> 999999/\¬r.1< -999999/\¬r.2.1> 999999/\¬r.2.1< -999999)
def gf(l:List ft)(k:Nat):Bool:=l.all nU && decide (l.length<=k)
theorem tX(l:List ft)(k:Nat)(hl:l.length<=9223372036854775807)(hk:k<=1000000):FS 21 [.arr (nR l),i64 k] (bln (gf l k)):=by
 have m:(nR l).length=l.length:=by simp[nR]
 refine f_n Tryz.func21 ?_ ?_;exact ac (aG (cM l)) (ac (ag _) af);refine r_z 1 ?_;refine ae (r_z 1 ?_);refine aF (fun _:Unit=>⟨[(0,.arr (nR l)),(1,i64 k)],[],1,45⟩) (fun _=>l.all nU=true) ?_ ?_;refine aj (aC (fun j:Nat=>⟨[(5,i64 ((j:Nat):Int)),(0,.arr (nR l)),(1,i64 k)],[],1,45⟩) (fun j=>l.length- j) (fun j=>j<=l.length/\(l.take j).all nU=true) 0 ⟨Nat.zero_le _,rfl⟩ ?_ ?_);have:=(aG (cM l));exact s_f [];rintro j ⟨o,g⟩;by_cases hlt:j< l.length;obtain⟨r,n⟩:∃r,l[j]?=some r:=⟨_,List.getElem?_eq_getElem hlt⟩
 have c:(nR l)[((j:Nat):Int).toNat]?=some (nuC r.1 r.2.1 r.2.2):=by
  rw[Int.toNat_natCast,nR,List.getElem?_map,n];rfl
 have b:nU r=false->gf l k=false:=fun h=>by
  unfold gf;rw[Bool.and_eq_false_iff];exact .inl (List.all_eq_false.2 ⟨r,List.mem_of_getElem? n,by rw[h];decide⟩)
 refine ae (q_z 4 ?_);refine cT (am (ae (aj (s_r 6 ?_))));refine a_2 ?_;refine i_x c ?_;refine l_x c ?_;refine a_z ?_;by_cases c0:((r.2.2:Int) % 4≠0);have a:nU r=false:=decide_eq_false (by rintro⟨e0,e1,e2,d,f⟩;exact e0 c0);rw[b a];refine s_r 24 ?_;refine a_3 ?_;refine o_0 (.bin rfl rfl (vT ct ((by simpa using c0)))) ?_;refine a_z ?_;refine cT (r_z 1 ?_);exact ai (t_e (ag _));by_cases c1:r.1> 999999;have a:nU r=false:=decide_eq_false (by rintro⟨e0,e1,e2,d,f⟩;exact e1 c1);rw[b a];refine s_r 24 ?_;refine a_3 ?_;refine o_0 (.bin rfl rfl (vF ct ((by simpa using c0)))) ?_;refine d_z ?_;refine cT (r_z 1 ?_);exact ai (t_e (ag _));by_cases c2:r.1< -999999;have a:nU r=false:=decide_eq_false (by rintro⟨e0,e1,e2,d,f⟩;exact e2 c2);rw[b a];refine s_r 24 ?_;refine a_3 ?_;refine o_0 (.bin rfl rfl (vF ct ((by simpa using c0)))) ?_;refine d_z ?_;refine cT (r_z 1 ?_);exact ai (t_e (ag _));by_cases c3:r.2.1> 999999;have a:nU r=false:=decide_eq_false (by rintro⟨e0,e1,e2,d,f⟩;exact d c3);rw[b a];refine s_r 24 ?_;refine a_3 ?_;refine o_0 (.bin rfl rfl (vF ct ((by simpa using c0)))) ?_;refine d_z ?_;refine cT (r_z 1 ?_);exact ai (t_e (ag _));by_cases c4:r.2.1< -999999;have a:nU r=false:=decide_eq_false (by rintro⟨e0,e1,e2,d,f⟩;exact f c4);rw[b a];refine s_r 24 ?_;refine a_3 ?_;refine o_0 (.bin rfl rfl (vF ct ((by simpa using c0)))) ?_;refine d_z ?_;refine cT (r_z 1 ?_);exact ai (t_e (ag _));have a:nU r=true:=decide_eq_true ⟨c0,c1,c2,c3,c4⟩;refine s_r 24 ?_;refine a_3 ?_
 refine o_0 (.bin rfl rfl (vF ct ((by simpa using c0)))) ?_;refine d_z ?_;refine cF (am (r_m 3 ?_));refine a_z ?_;refine⟨j+1,by omega,⟨hlt,?_⟩,?_⟩;rw[cJ n,List.all_append,g];simp[a];have:=(aG (cM l));exact s_f [];have i:l.take j=l:=List.take_of_length_le (by omega);rw[i] at g;refine ae (q_z 4 ?_);refine cF (ax ⟨(),g,?_⟩);have:=(aG (cM l));exact s_f [];rintro _ g
 have e:gf l k=decide ((((nR l).length:Nat):Int)<=(k:Int)):=by
  unfold gf;rw[g,Bool.true_and,m];exact decide_eq_decide.2 (by omega)
 rw[e];refine r_z 5 ?_;exact ai (t_e (ag _))
theorem good_qs{r:ft}(h:nU r=true)(hb:lA r.1)(hd:lA r.2.1):qs (qp r.1 r.2.1 r.2.2)<=20:=by
 obtain⟨j,i,f,k,g⟩:=of_decide_eq_true h;have hp:r.2.2 % 4=0:=by omega
 have b:bl r.1.natAbs<=20:=gM (by omega);unfold qp;rw[hp];show qs (Rat.divInt r.1 (wF r.2.1))<=20;obtain⟨d,a⟩:∃d,d=wF r.2.1:=⟨_,rfl⟩;have c:d≠0:=by rw[a];unfold wF;split <;> omega
 have e:bl d.natAbs<=20:=by rw[a];unfold wF;split <;> exact gM (by omega)
 rw[<-a];by_cases hn:d< 0;rw[pD _ d hn];exact fF (by omega) (by rw[Int.natAbs_neg];exact b) (by omega);rw[pC _ d (by omega)];exact fF (by omega) b (by omega)
theorem tz{l:List ft}{k:Nat}(h:gf l k=true)(ho:okR l):bdL (nL l) 20/\(nL l).length<=k:=by
 unfold gf at h;rw[Bool.and_eq_true,List.all_eq_true] at h;refine⟨fun q b=>?_,by simpa[nL] using h.2⟩;obtain⟨r,a,rfl⟩:=List.mem_map.1 b;exact good_qs (h.1 r a) (ho r a).1 (ho r a).2.1
theorem zt(N D N' D':Int)(k k':Nat)(hN:lA N)(hD:lA D)(hk:k<=255)(hN':lA N')(hD':lA D')(hk':k'<=255):
    FS 19 [.agg (nuC N D k++nuC N' D' k')] (.tup [.agg (spC (qp N D k) (qp N' D' k')),.agg (rC (rq (qp N D k))++rC (rq (qp N' D' k')))]):=by
 have b1:=qV N D k hN hD hk;have b2:=qV N' D' k' hN' hD' hk';obtain⟨v,hv⟩:∃v,v=qp N D k:=⟨_,rfl⟩;obtain⟨w,b⟩:∃w,w=qp N' D' k':=⟨_,rfl⟩;rw[<-hv] at b1⊢;rw[<-b] at b2⊢;refine f_n Tryz.func19 ?_ ?_;exact ac (az fun c a=>(List.mem_append.1 a).elim (iX _ _ _ c) (iX _ _ _ c)) af;refine r_z 3 ?_;refine r_c 10 (b1) ?_;refine a_z ?_;refine r_c 10 (b2) ?_;refine a_z ?_;refine ae (r_d a7 8 ?_);refine a_8 ?_;refine aq (n_k ?_);refine ai (Fin.many ⟨_,_,rfl,⟨_,_,_,_,_,rfl,rfl,rfl,.inl ⟨TG.h,_,TS.h,nle rfl,rfl⟩⟩,⟨_,_,rfl,⟨_,_,_,_,_,rfl,rfl,rfl,.inl ⟨TG.h,_,TS.h,nle rfl,rfl⟩⟩,rfl⟩⟩ (nle rfl) ?_);exact ah (an aA (b5 _ _)) (ah (an aA (az fun c a=>(List.mem_append.1 a).elim (gd _ c) (gd _ c))) av)
def sP(p:Lq×Lq):Bool:=decide (12< bO p.1)||decide (12< bO p.2)
def vaB(k:Ke):Bool:=!k.any sP && decide (k.length<=8)
theorem He(p:Lq×Lq):Cf p=sP p:=by
 unfold Cf sP;by_cases h1:12< bO p.1;rw[decide_eq_true h1,Bool.true_or,decide_eq_true];split <;> omega;by_cases h2:12< bO p.2;rw[decide_eq_true h2,Bool.or_true,decide_eq_true];split <;> omega;rw[decide_eq_false h1,decide_eq_false h2,Bool.or_false,decide_eq_false];split <;> omega
def vkS(k:Ke):Nat->AState
 |i=>⟨[(0,.arr (keR k)),(3,i64 i)],[],1,29⟩
theorem DE(k:Ke)(hl:k.length<=1000)(h2:∀p∈k,p.1.length<=1000000/\p.2.length<=1000000):FS 64 [.arr (keR k)] (bln (vaB k)):=by
 have l:(keR k).length=k.length:=pr k;refine f_n Tryz.func64 ?_ ?_;exact ac (fO k) af;obtain⟨r,n⟩:∃r,r=vaB k:=⟨_,rfl⟩;rw[<-n];refine r_z 1 ?_;refine ae (r_z 1 ?_);refine aF (fun _:Unit=>⟨[(0,.arr (keR k))],[],1,29⟩) (fun _=> ∀p∈k,sP p=false) ?_ ?_;refine aj (aC (vkS k) (fun i=>k.length- i) (fun i=>i<=k.length/\∀p∈k.take i,sP p=false) 0 ⟨Nat.zero_le _,fun p hp=>by simp at hp⟩ ?_ ?_);rw[vkS.eq_1];have:=fO k;exact s_f [];rintro i ⟨o,b⟩;rw[vkS.eq_1];by_cases hlt:i< k.length;obtain⟨p,hp⟩:∃p,k[i]?=some p:=⟨_,List.getElem?_eq_getElem hlt⟩;have a:(keR k)[((i:Nat):Int).toNat]?=some (pkR p):=keR_get hp _ (by simp);have f:=List.mem_of_getElem? hp;obtain⟨l1,l2⟩:=h2 p f;have d1:=iQ (rP p.1) (by simp;omega);have d2:=iQ (rP p.2) (by simp;omega);rw[EA] at d1 d2
 have d:sP p=true->r=false:=fun e=>by
  rw[n];unfold vaB;rw[List.any_eq_true.2 ⟨p,f,e⟩];rfl
 by_cases e1:12< bO p.1;refine ae (q_z 4 ?_);refine cT (am (ae (aj (s_r 16 ?_))));refine a_2 ?_;refine i_x a ?_;refine a_1 ?_;refine l_1 a ?_;refine c_s (d1) ?_;refine d_z ?_;refine cT ?_;rw[d (by unfold sP;rw[decide_eq_true e1];rfl)];refine r_z 1 ?_;exact ai (t_e (ag _));by_cases e2:12< bO p.2;refine ae (q_z 4 ?_);refine cT (am (ae (aj (s_r 16 ?_))));refine a_2 ?_;refine i_x a ?_;refine a_1 ?_;refine l_1 a ?_;refine c_s (d1) ?_;refine d_4 ?_;refine aQ rfl rfl rfl (.index_a rfl rfl (by omega) a rfl te_70.h) rfl rfl ?_;refine m_1 ?_;refine aQ rfl rfl rfl (.load_a1 rfl a TG.h rfl) rfl rfl ?_;refine c_s (d2) ?_;refine d_z ?_;refine cT ?_;rw[d (by unfold sP;rw[decide_eq_true e2,Bool.or_true])];refine r_z 1 ?_;exact ai (t_e (ag _));refine ae (q_z 4 ?_);refine cT (am (ae (aj (s_r 16 ?_))));refine a_2 ?_;refine i_x a ?_;refine a_1 ?_;refine l_1 a ?_;refine c_s (d1) ?_;refine d_4 ?_;refine aQ rfl rfl rfl (.index_a rfl rfl (by omega) a rfl te_70.h) rfl rfl ?_;refine m_1 ?_;refine aQ rfl rfl rfl (.load_a1 rfl a TG.h rfl) rfl rfl ?_;refine c_s (d2) ?_;refine d_z ?_;refine cF (am (r_m 3 ?_));refine a_z ?_;refine⟨i+1,by omega,⟨by omega,fun q c=>?_⟩,?_⟩;rw[cJ hp] at c;rcases List.mem_append.1 c with c|c
 exact b q c;rw[List.mem_singleton.1 c];unfold sP;rw[decide_eq_false e1,decide_eq_false e2];rfl;rw[vkS.eq_1];have:=fO k;exact s_f [];have j:i=k.length:=by omega
 refine ae (q_z 4 ?_);refine cF (ax ⟨(),(by rw[j,List.take_length] at b;exact b),?_⟩);have:=fO k;exact s_f [];rintro _ g
 have m:r=decide (((keR k).length:Int)<=8):=by
  rw[n];unfold vaB;have:k.any sP=false:=List.any_eq_false.2 fun p hp=>by rw[g p hp];decide
  rw[this,l];show decide (k.length<=8)=_;exact decide_eq_decide.2 (by omega)
 rw[m];refine r_z 4 ?_;exact ai (t_e (ag _))
theorem Jf(k:Ke)(g:Lq)(hl:k.length<=1000)(h2:∀p∈k,p.1.length<=1000000/\p.2.length<=1000000)(hg:g.length<=1000000):FS 22 [.arr (keR k),.arr (rE (rP g))] (bln (!vaB k||decide (20< bO g))):=by
 have hv:=DE k hl h2;have a:=iQ (rP g) (by simp;omega);rw[EA] at a;refine f_n Tryz.func22 ?_ ?_;exact ac (fO k) (ac (fj _) af);refine r_z 1 ?_;cases e:vaB k with
 |false=>
  rw[e] at hv;refine r_c 9 (hv) ?_;refine d_z ?_;exact ai (t_e (ag _))
 |true=>
  rw[e] at hv;refine r_c 9 (hv) ?_;refine e_s (a) ?_;refine d_z ?_;exact ai (t_e (ag _))
theorem xe{k:Ke}(hkl:k.length<=3)(h4:∀p∈k,p.1.length<=4/\p.2.length<=4):pn k:=by
 refine⟨by omega,?_,fun p hp=>by have:=h4 p hp;omega⟩;rw[List.any_eq_false];intro p hp;have h:=h4 p hp;have a:=bR p.1;have b:=bR p.2
 have:¬(12< if bO p.2> bO p.1 then bO p.2 else bO p.1):=by
  unfold bO;split <;> omega
 unfold Cf;simpa using this
theorem zX(g:Lq){n:Nat}(h:g.length<=n+1):bO g<=n:=by
 have:=bR g;unfold bO;omega
theorem Hh{k:Ke}{l:Rat}{g:Lq}{a:Rat}{n:Nat}(hn:n<=40)(hkl:k.length<=3)(h4:∀p∈k,p.1.length<=4/\p.2.length<=4)(hb:∀p∈k,bdL p.1 20/\bdL p.2 20)(hg:g.length<=5)(bg:bdL g 20)(hl:qs l<=20)(ha:qs a<=20):OkSe k l g a n:=by
 obtain⟨J,O,w,C,E,A,x⟩:=Km hkl h4 hb;obtain⟨c,i,d0⟩:=Eu ha;obtain⟨m,t,y⟩:=Eu hl;obtain⟨Q,v⟩:=Ak g bg;have v:=v.mono (show _<=101 by omega);obtain⟨z,B,o,j,q,u,h⟩:=Hi w C E A x d0 i c;obtain⟨D,e⟩:=HS_shift' (N:=4) d0 i c v (by omega);have e:=e.mono (show _<=3000 by omega);have lg:=kz a g;have f:(mvK a k).length<=900:=by unfold mvK;simp;omega
 have S:=fun r (s:r<=1000)=>HR (k:=mvK a k) (G:=cn [a,1] g) (L:=l) o f (by omega) (by omega) j q u h e y t m hn r s;have U:=fun r (s:r<=1000) (K:Rat) (H:HS (seK (mvK a k) (cn [a,1] g) l n r) K (20000* r+1))=>yk (a:=0) (d:=1) o f (by have:=yA (mvK a k) (cn [a,1] g) l n r;omega) H (by decide) (IB.one.mono (by omega)) ((IB.zero 20).eq (by grind)) (by decide) (by omega) j q u h (by omega);refine⟨xe hkl h4,by have:=zX g (n:=4) (by omega);omega,fun p hp=>?_,?_,by omega,by unfold sm;omega,dG (e.bdL (by omega)) (by omega),by omega,fun r s=>(S r (by omega)).2,fun r s=>?_,fun r s=>?_⟩;obtain⟨F,M⟩:=h4 p hp;exact⟨⟨oC (N:=3) d0 i c ha (by omega) (by omega) (by omega) _ (by omega) (w.a p hp),by omega⟩,oC (N:=3) d0 i c ha (by omega) (by omega) (by omega) _ (by omega) (w.b p hp),by omega⟩;exact oC (N:=4) d0 i c ha (by omega) (by omega) (by omega) _ (by omega) v;obtain⟨K,H⟩:=(S r (by omega)).1;obtain⟨u1,u2,_⟩:=U r (by omega) K H;have hl:=yA (mvK a k) (cn [a,1] g) l n r;exact⟨dG (u1.bdL (by omega)) (by omega),by omega⟩;obtain⟨K,H⟩:=(S r (by omega)).1;obtain⟨u1,u2,_⟩:=U r (by omega) K H;exact dG ((u1.k y t m).bdL (by omega)) (by omega)
theorem any_big(k:Ke):k.any Cf=k.any sP:=by
 congr 1;exact funext He
theorem okKe_va{k:Ke}(h:vaB k=true)(h2:∀p∈k,p.1.length<=1099511627776/\p.2.length<=1099511627776):pn k:=by
 unfold vaB at h;simp only[Bool.and_eq_true,Bool.not_eq_true',decide_eq_true_eq] at h;exact⟨h.2,by rw[any_big];exact h.1,h2⟩
theorem GR(l:List ft)(ho:okR l)(hl:l.length<=9223372036854775807):
    FS 18 [.arr (nR l)] (if 40< l.length then .tup [.arr (pE []),.arr (rE []),bln false] else .tup [.arr (pE (nL l)),.arr (rE (rP (nL l))),bln (gf l 5||decide (20< bO (nL l)))]):=by
 have c:(nR l).length=l.length:=by simp[nR]
 have d:=aG (cM l);by_cases h40:40< l.length;rw[if_pos h40];refine f_c Tryz.func18 ?_;refine r_z 3 ?_;refine ae (q_z 3 ?_);refine cT (r_z 3 ?_);refine ai (Fin.many ⟨_,_,rfl,rfl,⟨_,_,rfl,rfl,⟨_,_,rfl,rfl,rfl⟩⟩⟩ (nle rfl) ?_);exact ah (Cv.emp _) (ah (Cv.emp _) (ah (an aA (ag _)) av));rw[if_neg h40];have hb:=vG l (by omega) ho;have a:=tX l 5 hl (by decide);have b:=iQ (rP (nL l)) (by simp[nL];omega);rw[EA] at b;cases e:gf l 5 with
 |true=>
  rw[e] at a;refine f_c Tryz.func18 ?_;refine r_z 3 ?_;refine ae (q_z 3 ?_);refine cF (am (r_c 7 (hb) ?_));refine a_z ?_;refine r_c 12 (a) ?_;refine d_z ?_;refine ai (Fin.many ⟨_,_,rfl,rfl,⟨_,_,rfl,rfl,⟨_,_,rfl,rfl,rfl⟩⟩⟩ (nle rfl) ?_);exact ah (an aA (aB _)) (ah (an aA (fj _)) (ah (an aA (ag _)) av))
 |false=>
  rw[e] at a;refine f_c Tryz.func18 ?_;refine r_z 3 ?_;refine ae (q_z 3 ?_);refine cF (am (r_c 7 (hb) ?_));refine a_z ?_;refine r_c 12 (a) ?_;refine e_s (b) ?_;refine d_z ?_;refine ai (Fin.many ⟨_,_,rfl,rfl,⟨_,_,rfl,rfl,⟨_,_,rfl,rfl,rfl⟩⟩⟩ (nle rfl) ?_);exact ah (an aA (aB _)) (ah (an aA (fj _)) (ah (an aA (ag _)) av))
abbrev gU:=List ft×List ft
def twC(t:gU):La:=[.arr (nR t.1),.arr (nR t.2)]
def twR(l:List gU):Lc:=l.map twC
@[simp] theorem CF (l:List gU):(twR l).length=l.length:=by simp[twR]
theorem Eb(l:List gU):∀x∈twR l,∀c∈x,Closed c:=fun x a=>by
 obtain⟨p,_,rfl⟩:=List.mem_map.1 a;exact ac (aG (cM _)) (ac (aG (cM _)) af)
theorem dj(l:List gU):Closed (.arr (twR l)):=aG (Eb l)
theorem twR_get{l:List gU}{i:Nat}{t:gU}(h:l[i]?=some t):∀e,e=i->(twR l)[e]?=some (twC t):=fun e a=>by
 rw[a,twR,List.getElem?_map,h];rfl
def yV(t:gU):Prop:=(okR t.1/\okR t.2)/\t.1.length<=9223372036854775807/\t.2.length<=9223372036854775807
def fC(l:List ft):Bool:=gf l 4||decide (12< bO (nL l))
def xm(t:gU):Bool:=decide (30< t.1.length)||decide (30< t.2.length)
def iL(t:gU):Bool:=!xm t && (fC t.1 && fC t.2)
def xn(n:Nat):Bool:=!((decide (3< n) && decide (n<=8))||decide (12< n))
def tv(l:List gU):Bool:=xn l.length && l.all iL
def keM(l:List gU):Ke:=l.map fun t=>(nL t.1,nL t.2)
@[simp] theorem fH (l:List gU):(keM l).length=l.length:=by simp[keM]
def keV(l:List gU):AV:=if tv l then .tup [.arr (kE (keM l)),.arr (keR (keM l)),bln true] else .tup [.arr (kE []),.arr (keR []),bln false]
theorem keR_one(k:Ke):(keR k).all (·.all AV.one)=true:=by
 rw[List.all_eq_true];intro x a;obtain⟨p,_,rfl⟩:=List.mem_map.1 a;rfl
theorem IJ(k:Ke)(p:Lq×Lq):keR (k++[p])=keR k++[pkR p]:=by simp[keR]
def krS'(l:List gU):Nat->AState
 |0=>⟨[(0,.arr (twR l)),(5,.emp),(6,.emp),(7,i64 0)],[],1,105⟩
 |i+1=>⟨[(0,.arr (twR l)),(5,.lsl 1 0 (i+1) none 2),(6,.lsl 2 0 (i+1) none 2),(7,i64 ((i+1:Nat):Int))],[(1,some ⟨93,2,kE ((keM l).take (i+1))⟩),(2,some ⟨137,2,keR ((keM l).take (i+1))⟩)],3,105⟩
theorem qy{l:List gU}{t:gU}(ht:t∈l)(h:iL t=false):tv l=false:=by
 unfold tv;rw[List.all_eq_false.2 ⟨t,ht,by rw[h];decide⟩,Bool.and_false]
structure PrF (t:gU):Prop where
 b1:FS 60 [.arr (nR t.1)] (.tup [.arr (pE (nL t.1)),.arr (rE (rP (nL t.1)))])
 b2:FS 60 [.arr (nR t.2)] (.tup [.arr (pE (nL t.2)),.arr (rE (rP (nL t.2)))])
 t1:FS 21 [.arr (nR t.1),i64 4] (bln (gf t.1 4))
 t2:FS 21 [.arr (nR t.2),i64 4] (bln (gf t.2 4))
 d1:FS 61 [.arr (rE (rP (nL t.1)))] (i64 (bO (nL t.1)))
 d2:FS 61 [.arr (rE (rP (nL t.2)))] (i64 (bO (nL t.2)))
theorem prF{t:gU}(h:yV t)(h1:t.1.length<=30)(h2:t.2.length<=30):PrF t:=by
 have d1:=iQ (rP (nL t.1)) (by simp[nL];omega);have d2:=iQ (rP (nL t.2)) (by simp[nL];omega);rw[EA] at d1 d2;exact⟨vG t.1 (by omega) h.1.1,vG t.2 (by omega) h.1.2,tX t.1 4 h.2.1 (by decide),tX t.2 4 h.2.2 (by decide),d1,d2⟩
theorem DR(l:List gU)(ho:∀t∈l,yV t)(hl:l.length<=9223372036854775807):FS 17 [.arr (twR l)] (keV l):=by
 have M:(twR l).length=l.length:=CF l;refine f_n Tryz.func17 ?_ ?_;exact ac (dj l) af;obtain⟨r,D⟩:∃r,r=keV l:=⟨_,rfl⟩;rw[<-D];have e:tv l=false->r= .tup [.arr (kE []),.arr (keR []),bln false]:=fun h=>by rw[D,keV,h];rfl
 refine r_z 3 ?_;refine r_z 1 ?_;refine r_z 1 ?_;have C:Cv (Ren.id 0) (ap []) (fun _=>none) (.tup [.emp,.emp,bln false]) (.tup [.arr (kE []),.arr (keR []),bln false])->True:=fun _=>trivial;by_cases c1:12< l.length;rw[e (by unfold tv xn;rw[decide_eq_true c1,Bool.or_true];rfl)];refine ae (q_z 13 ?_);refine cT (r_z 3 ?_);refine ai (Fin.many ⟨_,_,rfl,rfl,⟨_,_,rfl,rfl,⟨_,_,rfl,rfl,rfl⟩⟩⟩ (nle rfl) ?_);exact ah (Cv.emp _) (ah (Cv.emp _) (ah (an aA (ag _)) av));by_cases c2:3< l.length/\l.length<=8;rw[e (by unfold tv xn;rw[decide_eq_true c2.1,decide_eq_true c2.2];rfl)];refine ae (q_z 13 ?_);refine cT (r_z 3 ?_);refine ai (Fin.many ⟨_,_,rfl,rfl,⟨_,_,rfl,rfl,⟨_,_,rfl,rfl,rfl⟩⟩⟩ (nle rfl) ?_);exact ah (Cv.emp _) (ah (Cv.emp _) (ah (an aA (ag _)) av))
 have v:xn l.length=true:=by
  unfold xn;rw[decide_eq_false c1,Bool.or_false,Bool.not_eq_true',Bool.and_eq_false_iff];by_cases h3:3< l.length;exact .inr (decide_eq_false (by omega));exact .inl (decide_eq_false h3)
 refine bH (fun _:Unit=>⟨[(0,.arr (twR l)),(5,.emp),(6,.emp)],[],1,105⟩) (fun _=>True) ?_ ?_;by_cases h3:3< l.length;refine q_z 13 ?_;refine cF (am (⟨(),trivial,?_⟩));have:=dj l;exact s_f [];refine q_z 13 ?_;refine cF (am (⟨(),trivial,?_⟩));have:=dj l;exact s_f [];rintro _ _;refine ae (r_z 1 ?_);refine aF (fun _:Unit=>krS' l l.length) (fun _=> ∀t∈l,iL t=true) ?_ ?_
 ·refine aj (aC (krS' l) (fun i=>l.length- i) (fun i=>i<=l.length/\∀t∈l.take i,iL t=true) 0 ⟨Nat.zero_le _,fun t s=>by simp at s⟩ ?_ ?_)
  rw[krS'.eq_1];have:=dj l;exact s_f [];rintro i ⟨O,g⟩;obtain⟨G,J,p,q,o⟩:∃G J p q,krS' l i=⟨[(0,.arr (twR l)),(5,G),(6,J),(7,i64 i)],p,q,105⟩:=by cases i <;> exact⟨_,_,_,_,rfl⟩
  by_cases hlt:i< l.length;rotate_left;have u:i=l.length:=by omega
  rw[o];refine ae (q_z 4 ?_);refine cF (ax ⟨(),(by rw[u,List.take_length] at g;exact g),?_⟩);show SEnt _ (krS' l l.length);rw[<-u];cases i with
  |zero=>
   rw[krS'.eq_1] at o⊢;cases o;have:=dj l;exact s_f []
  |succ i=>
   rw[krS'.eq_2] at o⊢;cases o;refine s_x [(1,5),(2,6)] (fun hs=>e_24) (fun hs=>?_)
   ·repeat' (first|exact aE|refine h_c ?_ ?_|exact bm hs (eu _)|exact bm hs (kF _)|exact bZ|refine aD ?_|exact av|refine ah ?_ ?_|exact an hs (dj l)|exact aX)
  obtain⟨t,s⟩:∃t,l[i]?=some t:=⟨_,List.getElem?_eq_getElem hlt⟩;have k:=List.mem_of_getElem? s;have a:(twR l)[((i:Nat):Int).toNat]?=some (twC t):=twR_get s _ (by simp);have Q:(nR t.1).length=t.1.length:=by simp[nR]
  have R:(nR t.2).length=t.2.length:=by simp[nR]
  rw[o];by_cases l1:30< t.1.length;rw[e (qy k (by unfold iL xm;rw[decide_eq_true l1];rfl))];refine ae (q_z 4 ?_);refine cT (am (ae (aj (ae (s_r 16 ?_)))));refine a_2 ?_;refine i_x a ?_;refine a_1 ?_;refine l_1 a ?_;refine d_z ?_;refine cT (r_z 3 ?_);refine ai (Fin.many ⟨_,_,rfl,rfl,⟨_,_,rfl,rfl,⟨_,_,rfl,rfl,rfl⟩⟩⟩ (nle rfl) ?_);exact ah (Cv.emp _) (ah (Cv.emp _) (ah (an aA (ag _)) av));by_cases l2:30< t.2.length;rw[e (qy k (by unfold iL xm;rw[decide_eq_true l2,Bool.or_true];rfl))];refine ae (q_z 4 ?_);refine cT (am (ae (aj (ae (s_r 16 ?_)))));refine a_2 ?_;refine i_x a ?_;refine a_1 ?_;refine l_1 a ?_;refine d_5 ?_;refine aQ rfl rfl rfl (.index_a rfl rfl (by omega) a rfl te_22.h) rfl rfl ?_;refine m_1 ?_;refine aQ rfl rfl rfl (.load_a1 rfl a TG.h rfl) rfl rfl ?_;refine d_z ?_;refine cT (r_z 3 ?_);refine ai (Fin.many ⟨_,_,rfl,rfl,⟨_,_,rfl,rfl,⟨_,_,rfl,rfl,rfl⟩⟩⟩ (nle rfl) ?_);exact ah (Cv.emp _) (ah (Cv.emp _) (ah (an aA (ag _)) av));have F:=prF (ho t k) (by omega) (by omega);have b1:=F.b1;have b2:=F.b2;have t1:=F.t1;have t2:=F.t2;have d1:=F.d1;have d2:=F.d2;have c:xm t=false:=by unfold xm;rw[decide_eq_false l1,decide_eq_false l2];rfl
  refine ae (q_z 4 ?_);refine cT (am (ae (aj (ae (s_r 16 ?_)))));refine a_2 ?_;refine i_x a ?_;refine a_1 ?_;refine l_1 a ?_;refine d_5 ?_;refine aQ rfl rfl rfl (.index_a rfl rfl (by omega) a rfl te_22.h) rfl rfl ?_;refine m_1 ?_;refine aQ rfl rfl rfl (.load_a1 rfl a TG.h rfl) rfl rfl ?_;refine d_z ?_;refine cF (am (s_r 11 ?_));refine a_2 ?_;refine i_x a ?_;refine a_1 ?_;refine l_1 a ?_;refine c_s (b1) ?_;refine a_z ?_;refine s_r 11 ?_;refine a_2 ?_;refine i_x a ?_;refine a_1 ?_;refine l_1 a ?_;refine c_s (b2) ?_;refine a_z ?_;refine bH (fun _:Unit=>⟨[(0,.arr (twR l)),(5,G),(6,J),(7,i64 i),(8,.arr (pE (nL t.1))),(9,.arr (rE (rP (nL t.1)))),(10,.arr (pE (nL t.2))),(11,.arr (rE (rP (nL t.2))))],p,q+100,105⟩) (fun _=>iL t=true) ?_ ?_;by_cases s1:fC t.1=true;by_cases s2:fC t.2=true;have f:iL t=true:=by unfold iL;rw[c,s1,s2];rfl
  cases e1:gf t.1 4 with
  |true=>
   rw[e1] at t1;cases e2:gf t.2 4 with
   |true=>
    rw[e2] at t2;refine s_r 26 ?_;refine a_2 ?_;refine i_x a ?_;refine a_1 ?_;refine l_1 a ?_;refine c_s (t1) ?_;refine d_8 ?_;refine m_1 ?_;refine aQ rfl rfl rfl (.index_a rfl rfl (by omega) a rfl te_22.h) rfl rfl ?_;refine m_1 ?_;refine aQ rfl rfl rfl (.load_a1 rfl a TG.h rfl) rfl rfl ?_;refine c_s (t2) ?_;refine d_z ?_;exact cF (am (⟨(),f,SEnt.keep (all_cons rfl (all_cons rfl (all_cons rfl (all_cons rfl (all_cons rfl (all_cons rfl (all_cons rfl (all_cons rfl uj)))))))) (by omega)⟩))
   |false=>
    rw[e2] at t2;have K:12< bO (nL t.2):=by unfold fC at s2;rw[e2] at s2;simpa using s2
    refine s_r 26 ?_;refine a_2 ?_;refine i_x a ?_;refine a_1 ?_;refine l_1 a ?_;refine c_s (t1) ?_;refine d_8 ?_;refine m_1 ?_;refine aQ rfl rfl rfl (.index_a rfl rfl (by omega) a rfl te_22.h) rfl rfl ?_;refine m_1 ?_;refine aQ rfl rfl rfl (.load_a1 rfl a TG.h rfl) rfl rfl ?_;refine c_s (t2) ?_;refine e_s (d2) ?_;refine d_z ?_;exact cF (am (⟨(),f,SEnt.keep (all_cons rfl (all_cons rfl (all_cons rfl (all_cons rfl (all_cons rfl (all_cons rfl (all_cons rfl (all_cons rfl uj)))))))) (by omega)⟩))
  |false=>
   rw[e1] at t1;have L:12< bO (nL t.1):=by unfold fC at s1;rw[e1] at s1;simpa using s1
   cases e2:gf t.2 4 with
   |true=>
    rw[e2] at t2;refine s_r 26 ?_;refine a_2 ?_;refine i_x a ?_;refine a_1 ?_;refine l_1 a ?_;refine c_s (t1) ?_;refine e_s (d1) ?_;refine d_5 ?_;refine aQ rfl rfl rfl (.index_a rfl rfl (by omega) a rfl te_22.h) rfl rfl ?_;refine m_1 ?_;refine aQ rfl rfl rfl (.load_a1 rfl a TG.h rfl) rfl rfl ?_;refine c_s (t2) ?_;refine d_z ?_;exact cF (am (⟨(),f,SEnt.keep (all_cons rfl (all_cons rfl (all_cons rfl (all_cons rfl (all_cons rfl (all_cons rfl (all_cons rfl (all_cons rfl uj)))))))) (by omega)⟩))
   |false=>
    rw[e2] at t2;have K:12< bO (nL t.2):=by unfold fC at s2;rw[e2] at s2;simpa using s2
    refine s_r 26 ?_;refine a_2 ?_;refine i_x a ?_;refine a_1 ?_;refine l_1 a ?_;refine c_s (t1) ?_;refine e_s (d1) ?_;refine d_5 ?_;refine aQ rfl rfl rfl (.index_a rfl rfl (by omega) a rfl te_22.h) rfl rfl ?_;refine m_1 ?_;refine aQ rfl rfl rfl (.load_a1 rfl a TG.h rfl) rfl rfl ?_;refine c_s (t2) ?_;refine e_s (d2) ?_;refine d_z ?_;exact cF (am (⟨(),f,SEnt.keep (all_cons rfl (all_cons rfl (all_cons rfl (all_cons rfl (all_cons rfl (all_cons rfl (all_cons rfl (all_cons rfl uj)))))))) (by omega)⟩))
  have d:fC t.2=false:=by simpa using s2
  rw[e (qy k (by unfold iL;rw[c,d];simp))];have e2:gf t.2 4=false:=by unfold fC at d;rw[Bool.or_eq_false_iff] at d;exact d.1
  have K:¬12< bO (nL t.2):=by unfold fC at d;rw[Bool.or_eq_false_iff] at d;exact of_decide_eq_false d.2
  rw[e2] at t2;cases e1:gf t.1 4 with
  |true=>
   rw[e1] at t1;refine s_r 26 ?_;refine a_2 ?_;refine i_x a ?_;refine a_1 ?_;refine l_1 a ?_;refine c_s (t1) ?_;refine d_8 ?_;refine m_1 ?_;refine aQ rfl rfl rfl (.index_a rfl rfl (by omega) a rfl te_22.h) rfl rfl ?_;refine m_1 ?_;refine aQ rfl rfl rfl (.load_a1 rfl a TG.h rfl) rfl rfl ?_;refine c_s (t2) ?_;refine e_s (d2) ?_;refine d_z ?_;refine cT (r_z 3 ?_);refine ai (Fin.many ⟨_,_,rfl,rfl,⟨_,_,rfl,rfl,⟨_,_,rfl,rfl,rfl⟩⟩⟩ (nle rfl) ?_);exact ah (Cv.emp _) (ah (Cv.emp _) (ah (an aA (ag _)) av))
  |false=>
   rw[e1] at t1;have L:12< bO (nL t.1):=by unfold fC at s1;rw[e1] at s1;simpa using s1
   refine s_r 26 ?_;refine a_2 ?_;refine i_x a ?_;refine a_1 ?_;refine l_1 a ?_;refine c_s (t1) ?_;refine e_s (d1) ?_;refine d_5 ?_;refine aQ rfl rfl rfl (.index_a rfl rfl (by omega) a rfl te_22.h) rfl rfl ?_;refine m_1 ?_;refine aQ rfl rfl rfl (.load_a1 rfl a TG.h rfl) rfl rfl ?_;refine c_s (t2) ?_;refine e_s (d2) ?_;refine d_z ?_;refine cT (r_z 3 ?_);refine ai (Fin.many ⟨_,_,rfl,rfl,⟨_,_,rfl,rfl,⟨_,_,rfl,rfl,rfl⟩⟩⟩ (nle rfl) ?_);exact ah (Cv.emp _) (ah (Cv.emp _) (ah (an aA (ag _)) av))
  have b:fC t.1=false:=by simpa using s1
  rw[e (qy k (by unfold iL;rw[c,b];rfl))];have e1:gf t.1 4=false:=by unfold fC at b;rw[Bool.or_eq_false_iff] at b;exact b.1
  have L:¬12< bO (nL t.1):=by unfold fC at b;rw[Bool.or_eq_false_iff] at b;exact of_decide_eq_false b.2
  rw[e1] at t1;refine s_r 26 ?_;refine a_2 ?_;refine i_x a ?_;refine a_1 ?_;refine l_1 a ?_;refine c_s (t1) ?_;refine e_s (d1) ?_;refine d_z ?_;refine cT (r_z 3 ?_);refine ai (Fin.many ⟨_,_,rfl,rfl,⟨_,_,rfl,rfl,⟨_,_,rfl,rfl,rfl⟩⟩⟩ (nle rfl) ?_);exact ah (Cv.emp _) (ah (Cv.emp _) (ah (an aA (ag _)) av));rintro _ f;have N:(keM l)[i]?=some (nL t.1,nL t.2):=by unfold keM;rw[List.getElem?_map,s];rfl
  have w:(keM l).take (i+1)=(keM l).take i++[(nL t.1,nL t.2)]:=cJ N;have e1:kE ((keM l).take i)++[prC (nL t.1,nL t.2)]=kE ((keM l).take (i+1)):=by rw[w,Fj]
  have e2:keR ((keM l).take i)++[pkR (nL t.1,nL t.2)]=keR ((keM l).take (i+1)):=by rw[w,IJ]
  have n:∀A∈l.take (i+1),iL A=true:=fun A h=>by
   rw[cJ s] at h;rcases List.mem_append.1 h with h|h
   exact g A h;rw[List.mem_singleton.1 h];exact f
  cases i with
  |zero=>
   rw[krS'.eq_1] at o;cases o;refine r_m 14 ?_;refine a_z ?_;refine r_m 3 ?_;refine a_z ?_;refine⟨0+1,by omega,⟨by omega,n⟩,?_⟩;rw[krS'.eq_2,<-e1,<-e2];refine s_x [(1,5),(2,6)] (fun hs=>e_24) (fun hs=>?_)
   ·repeat' (first|exact aE|refine h_c ?_ ?_|exact bm hs (eu [(nL t.1,nL t.2)])|exact bm hs (kF [(nL t.1,nL t.2)])|exact bZ|refine aD ?_|exact av|refine ah ?_ ?_|exact an hs (dj l)|exact aX)
  |succ i=>
   rw[krS'.eq_2] at o;cases o;have o1:=Dm ((keM l).take (i+1));have o2:=keR_one ((keM l).take (i+1));have q1:(kE ((keM l).take (i+1))).length=i+1:=by rw[dY,List.length_take,fH];omega
   have q2:(keR ((keM l).take (i+1))).length=i+1:=by rw[pr,List.length_take,fH];omega
   refine r_m 14 ?_;refine o_0 (.move rfl) ?_;refine o_0 (.move rfl) ?_;refine o_0 (.move rfl) ?_;refine o_0 (.build TZ.h tp_93.h rfl rfl) ?_;refine o_1 (.buildSlice te_29.h TZ.h rfl (by decide) rfl rfl rfl (by first|(simp;done)|(simp[cf,ofV];done)|rfl)) ?_;refine o_2 (.append_l rfl rfl rfl te_29.h rfl rfl rfl rfl rfl d_o (by first|exact dV _|exact dT _|exact dy _|exact dX _|exact dS _|assumption|rfl|simp) (by first|rfl|exact dV _|exact dT _|exact dy _|exact dX _|exact dS _|simp) rfl (.lsl rfl (nle rfl)) TZ.h rfl TB.h d_o (by first|(simp[maxLen];done)|(simp[maxLen];omega))) ?_;refine o_0 (.move rfl) ?_;refine o_0 (.move rfl) ?_;refine o_0 (.move rfl) ?_;refine o_0 (.build TZ.h tp_137.h rfl rfl) ?_;refine o_1 (.buildSlice te_70.h TZ.h rfl (by decide) rfl rfl rfl (by first|(simp;done)|(simp[cf,ofV];done)|rfl)) ?_;refine o_2 (.append_l rfl rfl rfl te_70.h rfl rfl rfl rfl rfl d_o (by first|exact dV _|exact dT _|exact dy _|exact dX _|exact dS _|assumption|rfl|simp) (by first|rfl|exact dV _|exact dT _|exact dy _|exact dX _|exact dS _|simp) rfl (.lsl rfl (nle rfl)) TZ.h rfl TB.h d_o (by first|(simp[maxLen];done)|(simp[maxLen];omega))) ?_;refine o_0 (.assign rfl) ?_;refine o_0 (.assign rfl) ?_;refine aq ?_;refine r_m 3 ?_;refine a_z ?_;refine⟨i+1+1,by omega,⟨by omega,n⟩,?_⟩;rw[krS'.eq_2];refine s_x [(1,5),(2,6)] (fun hs=>e_24) (fun hs=>?_)
   ·repeat' (first|exact aE|refine h_c ?_ ?_|exact aI hs e1 (eu _)|exact aI hs e2 (kF _)|exact bZ|refine aD ?_|exact av|refine ah ?_ ?_|exact an hs (dj l)|exact aX)
 rintro _ x
 have E:r= .tup [.arr (kE (keM l)),.arr (keR (keM l)),bln true]:=by
  rw[D,keV,show tv l=true by unfold tv;rw[v,List.all_eq_true.2 x];rfl];rfl
 rw[E];cases hll:l.length with
 |zero=>
  have y:l=[]:=List.eq_nil_of_length_eq_zero hll;subst y;rw[krS'.eq_1];refine r_z 5 ?_;refine ai (Fin.many ⟨_,_,rfl,rfl,⟨_,_,rfl,rfl,⟨_,_,rfl,rfl,rfl⟩⟩⟩ (nle rfl) ?_);exact ah (Cv.emp _) (ah (Cv.emp _) (ah (an aA (ag _)) av))
 |succ m=>
  have z:(keM l).take (m+1)=keM l:=List.take_of_length_le (by rw[fH];omega);have q1:(kE (keM l)).length=m+1:=by rw[dY,fH];omega
  have q2:(keR (keM l)).length=m+1:=by rw[pr,fH];omega
  rw[krS'.eq_2,z];refine r_z 5 ?_;refine ai (Fin.many ⟨_,_,rfl,rfl,⟨_,_,rfl,rfl,⟨_,_,rfl,rfl,rfl⟩⟩⟩ (nle rfl) ?_);exact ah (Cv.shut (B:=⟨93,2,kE (keM l)⟩) aA rfl (fun j B H=>by cases H) (by show 0+(m+1)<=(kE (keM l)).length;omega) (vV q1.symm (eu _))) (ah (Cv.shut (B:=⟨137,2,keR (keM l)⟩) aA rfl (fun j B H=>by cases H) (by show 0+(m+1)<=(keR (keM l)).length;omega) (vV q2.symm (kF _))) (ah (an aA (ag _)) av))
theorem ef(n:Nat)(A:Mx)(L:Ln):∀c∈[AV.arr (mE (kI n A)),.arr (lvE L),i64 n],Closed c:=ac (closed_mA _) (ac (aG (c8 L)) (ac (ag _) af))
theorem fN(n:Nat)(A:Mx)(L:Ln):Closed (syV n (A,L)):=az (ef n A L)
def bSy(n:Nat)(A:Mx)(L:Ln):AV:= .aptr [[.arr (mE (kI n A)),.arr (lvE L),i64 n]] 0 0
theorem bD(n:Nat)(A:Mx)(L:Ln):Closed (bSy n A L):=bq (ef n A L)
theorem tO{L:Ln}{i c:Nat}(h:L[i]?=some c):∀e:Nat,e=i->(lvE L)[e]?=some [i64 c]:=fun e a=>by
 rw[a,lvE,List.getElem?_map,h];rfl
def onS(A:Mx)(n:Nat)(L:Ln):Nat->AState
 |i=>⟨[(1,bSy n A L),(3,.lsl 1 0 n (some n) 3),(10,.arr (lvE L)),(11,i64 L.length),(12,i64 i)],[(1,some ⟨36,3,pE (qh A n L i)⟩)],2,31⟩
theorem tU(A:Mx)(n:Nat)(L:Ln)(hE:Ech A n n L)(hn:n<=25):FS 58 [syV n (A,L)] (.arr (pE (yU A n L))):=by
 have l:(lvE L).length=L.length:=j8 L;have p:=hE.len2;refine f_n Tryz.func58 ?_ ?_;exact ac (fN n A L) af;refine r_z 2 ?_;refine AWp.ent (st':=⟨[(1,bSy n A L)],[],1,31⟩) ?_ ?_;have:=ef n A L;exact s_f [];refine r_z 4 ?_;refine ae (r_z 4 ?_);refine aF (fun _:Unit=>⟨[(3,.arr (pE (yU A n L)))],[],1,31⟩) (fun _=>True) ?_ ?_;refine aj (aC (onS A n L) (fun i=>L.length- i) (fun i=>i<=L.length) 0 (Nat.zero_le _) ?_ ?_);rw[onS.eq_1,oneJ_0];refine s_x [(1,3)] (fun hs=>e_2) (fun hs=>?_)
 ·repeat' (first|exact aE|refine h_c ?_ ?_|exact CvLL.zeros hs n|exact bZ|refine aD ?_|exact av|refine ah ?_ ?_|exact an hs (bD n A L)|exact an hs (aG (c8 L))|exact aX)
 intro i r;rw[onS.eq_1];by_cases hlt:i< L.length;obtain⟨c,j⟩:∃c,L[i]?=some c:=⟨_,List.getElem?_eq_getElem hlt⟩;have d:=hE.lt i c j;have g:i< n:=by omega
 have e:(lvE L)[((i:Nat):Int).toNat]?=some [i64 c]:=tO j _ (by simp);have b:(mE (kI n A))[((i:Nat):Int).toNat]?=some [.arr (pE (aN (n+1) (A i)))]:=gR (jN g) _ (by simp);have a:(pE (aN (n+1) (A i)))[((n:Nat):Int).toNat]?=some (qC (A i n)):=dx (by omega) _ (by simp);have q:(mE (kI n A)).length=n:=by simp
 have m:(pE (aN (n+1) (A i))).length=n+1:=by simp[pE]
 have o:(pE (qh A n L i)).length=n:=by simp[pE]
 obtain⟨s,f⟩:=It (A:=A) (L:=L) (i:=i) d (0+((c:Nat):Int).toNat) (by omega);refine q_z 1 ?_;refine ae (cT (am (ae (aj (s_r 5 ?_)))));refine a_1 ?_;refine i_x e ?_;refine l_1 e ?_;refine a_z ?_;refine r_d a7 13 ?_;refine a_5 ?_;refine i_x b ?_;refine l_1 b ?_;refine a_2 ?_;refine i_x a ?_;refine l_x a ?_;refine a_1 ?_;refine eF (.store rfl rfl f rfl rfl rfl TS.h (nle rfl)) ?_;refine aq (n_k ?_);refine r_m 2 ?_;refine a_z ?_;refine⟨i+1,by omega,by omega,?_⟩;rw[onS.eq_1];refine s_x [] (fun hs=>e_2) (fun hs=>?_)
 ·repeat' (first|exact aE|refine h_c ?_ ?_|exact aI hs (oneJ_s hE j d (0+((c:Nat):Int).toNat) (by omega)) (aJ _)|exact bZ|refine aD ?_|exact av|refine ah ?_ ?_|exact an hs (bD n A L)|exact an hs (aG (c8 L))|exact aX)
 have k:i=L.length:=by omega
 refine q_z 1 ?_;refine ae (cF (ax ⟨(),trivial,?_⟩));rw[oneJ_n (by omega)];refine s_x [] (fun hs=>?_) (fun hs=>?_)
 ·repeat' (first|exact aP|refine ay rfl ?_ ?_|(refine Cv.shut hs rfl (aT rfl) (by simp[pE]) ?_;exact aI hs (by rw[List.drop_zero];exact List.take_of_length_le (by simp[pE])) (aJ _))|exact aX)
 ·repeat' (first|exact aE|refine h_c ?_ ?_|exact bZ|refine aD ?_|exact av|refine ah ?_ ?_|(refine Cv.shut hs rfl (aT rfl) (by simp[pE]) ?_;exact aI hs (by rw[List.drop_zero];exact List.take_of_length_le (by simp[pE])) (aJ _))|exact aX)
 rintro _ _;refine r_z 2 ?_;exact ai (t_e (aB _))
theorem GB(A:Mx)(n:Nat)(L:Ln)(e:Lq)(hl:e.length=n+1):FS 118 [.arr (pE e),bSy n A L] (bln (decide (coP e n≠0))):=by
 have b:(pE e).length=e.length:=by simp[pE]
 have a:(pE e)[((n:Nat):Int).toNat]?=some (qC (coP e n)):=by
  have:=ci (p:=e) (i:=n) (by omega);simp[pE,this]
 refine f_n Tryz.func118 ?_ ?_;exact ac (aB e) (ac (bD n A L) af);refine r_z 1 ?_;refine s_r 8 ?_;refine a_3 ?_;refine i_x a ?_;refine l_x a ?_;refine c_s (cC (coP e n)) ?_;refine a_z ?_;refine ai (aW rfl ?_ ?_);rw[show decide (coP e n≠0)=decide (sgZ (coP e n).num≠0) from decide_eq_decide.2 (not_congr sgZ_num_eq.symm)]
 first|rfl|(congr 1;cases hb:decide (sgZ (coP e n).num=0) with|true=>(have:=of_decide_eq_true hb;simp[this])|false=>(have:=of_decide_eq_false hb;simp[bln,bne,this]))
 exact ag _
theorem mE_el(k:Lw):∀e∈mE k,e.length=1:=fun e a=>by
 obtain⟨_,_,rfl⟩:=List.mem_map.1 a;rfl
theorem I7(A:Mx)(n:Nat)(L:Ln)(hLn:L.length<=n)(hn:n<=25):FS 54 [syV n (A,L)] (bln (ji n A L)):=by
 have d:(lvE L).length=L.length:=j8 L
 have c:=zn ((kI n A).drop L.length) 118 [bSy n A L] (fun e=>decide (coP e n≠0)) (ac (bD n A L) af) (by simp;omega) (fun e f=>GB A n L e (by
  obtain⟨k,a⟩:=List.mem_iff_getElem?.1 (List.mem_of_mem_drop f)
  have b:k< n:=by
   have:=(List.getElem?_eq_some_iff.1 a).1;simpa using this
  rw[jN b] at a;cases a;simp)) rfl
 rw[<-Fe] at c;refine f_n Tryz.func54 ?_ ?_;exact ac (fN n A L) af;refine r_z 2 ?_;refine AWp.ent (st':=⟨[(1,bSy n A L)],[],1,11⟩) ?_ ?_;have:=ef n A L;exact s_f [];refine s_r 9 ?_;refine a_5 ?_;refine o_0 (.sa_l rfl rfl (l:=L.length) rfl (by simp;omega) te_111.h (mE_el _)) ?_;refine c_s (c) ?_;refine a_z ?_;exact ai (t_e (ag _))
structure OkSm (k:Ke)(c:Lq)(i:Nat)(p:Lq×Lq):Prop where
 p1:smL p.1
 p2:p.1.length<=1099511627776
 cs:sm (coP c i)
 o1:smL (smK k c i)
 o2:(smK k c i).length<=1099511627776
 s1:smL (ba p.1 (coP c i))
 s2:(ba p.1 (coP c i)).length<=1099511627776
def ksS(k:Ke)(c:Lq):Nat->AState
 |i=>⟨[(1,.arr (pE c)),(5,.arr (pE (smK k c i))),(8,.arr (kE k)),(9,i64 k.length),(10,i64 i)],[],1,26⟩
theorem tV(k:Ke)(c:Lq)(hc:c.length=k.length)(hl:k.length<=1000)(h:∀i p,k[i]?=some p->OkSm k c i p):FS 57 [.arr (kE k),.arr (pE c)] (.arr (pE (smK k c k.length))):=by
 have f:(kE k).length=k.length:=dY k;refine f_n Tryz.func57 ?_ ?_;exact ac (aL k) (ac (aB c) af);refine r_z 1 ?_;refine r_z 1 ?_;refine ae (r_z 3 ?_);refine aF (fun _:Unit=>⟨[(5,.arr (pE (smK k c k.length)))],[],1,26⟩) (fun _=>True) ?_ ?_;refine aj (aC (ksS k c) (fun i=>k.length- i) (fun i=>i<=k.length) 0 (Nat.zero_le _) ?_ ?_);rw[ksS.eq_1];exact s_x [] (fun hs=>e_56) (fun hs=>e_57);intro i l;rw[ksS.eq_1];by_cases hlt:i< k.length;obtain⟨p,hp⟩:∃p,k[i]?=some p:=⟨_,List.getElem?_eq_getElem hlt⟩;have a:(kE k)[((i:Nat):Int).toNat]?=some (prC p):=ka hp _ (by simp);have j:(pE c).length=k.length:=by simp[pE,hc]
 have b:(pE c)[((i:Nat):Int).toNat]?=some (qC (coP c i)):=by
  have:=ci (p:=c) (i:=i) (by omega);simp[pE,this]
 have ok:=h i p hp;have g:=fK p.1 (coP c i) ok.p1 ok.cs ok.p2;have e:=nZ (smK k c i) _ ok.o1 ok.s1 ok.o2 ok.s2;refine q_z 1 ?_;refine ae (cT (am (ae (aj (s_r 6 ?_)))));refine a_1 ?_;refine i_x a ?_;refine l_x a ?_;refine a_z ?_;refine r_d a7 10 ?_;refine a_5 ?_;refine i_x b ?_;refine l_x b ?_;refine c_s (g) ?_;refine c_s (e) ?_;refine a_1 ?_;refine aq (n_k ?_);refine r_m 2 ?_;refine a_z ?_;refine⟨i+1,by omega,by omega,?_⟩;rw[ksS.eq_1,smK_s hp];unfold smF;exact s_x [] (fun hs=>e_56) (fun hs=>e_57);have d:i=k.length:=by omega
 refine q_z 1 ?_;refine ae (cF (ax ⟨(),trivial,?_⟩));rw[d];exact s_e [];rintro _ _;refine r_z 2 ?_;exact ai (t_e (aB _))
def tkC(k:Ke)(l:Rat)(g:Lq)(a b:Rat):La:=eqC k l g++spC a b
theorem ee(k:Ke)(l:Rat)(g:Lq)(a b:Rat):∀c∈tkC k l g a b,Closed c:=cY (dk k l g) (aZ a b)
def bTk(k:Ke)(l:Rat)(g:Lq)(a b:Rat):AV:= .aptr [tkC k l g a b] 0 0
theorem cV(k:Ke)(l:Rat)(g:Lq)(a b:Rat):Closed (bTk k l g a b):=bq (ee k l g a b)
theorem fs_sys1(k:Ke)(l:Rat)(g:Lq)(a b:Rat)(p:Lq×Lq)(hm:j7 p.2 g)(ho:OkIn (aK p.2 g) a b):
    FS 98 [.agg (prC p),bTk k l g a b] (.agg (qC (inQ (aK p.2 g) a b))):=by
 refine f_n Tryz.func98 ?_ ?_;exact ac (az (fk p)) (ac (cV k l g a b) af);refine r_z 2 ?_;refine ae (r_d a7 10 ?_);refine c_s (qR p.2 g hm) ?_;refine c_s (th _ a b ho) ?_;refine a_1 ?_;refine aq (n_k ?_);exact ai (c_e (aS _))
def rhK(k:Ke)(g:Lq)(a b:Rat):Lq:=k.map fun p=>inQ (aK p.2 g) a b
@[simp] theorem rhK_length (k:Ke)(g:Lq)(a b:Rat):(rhK k g a b).length=k.length:=by simp[rhK]
def syM(k:Ke)(l:Rat)(r:Lq)(a b:Rat):Mx×Ln:=slM (svM (maK k a b) l (fun t=>coP r t) k.length) k.length k.length
structure OkSy (k:Ke)(l:Rat)(a b:Rat)(s:Nat):Prop where
 m:OkMa k a b
 q:∀i j,i< k.length->j< k.length->qs (maK k a b i j)+qs l+2<=s
 s:slB s k.length<=100000000000
theorem OkSy.le{k:Ke}{l a b:Rat}{s:Nat}(h:OkSy k l a b s):s<=100000000000:=Nat.le_trans (nw (s:=s) (Nat.zero_le k.length)) h.s
theorem OkSy.bd{k:Ke}{l a b:Rat}{s:Nat}(h:OkSy k l a b s){r:Lq}(hr:∀i,i< k.length->qs (coP r i)<=s):bdM (svM (maK k a b) l (fun t=>coP r t) k.length) k.length s:=fun i j c e=>by
 unfold svM;by_cases e1:j=k.length;rw[if_pos e1];exact hr i c;rw[if_neg e1];have m:=h.q i j c (by omega);have f:=dw (maK k a b i j) l;split;have d:=gx (-(maK k a b i j* l)) 1;rw[fw] at d;have g:qs 1<=1:=by decide
 omega;rw[fw];omega
theorem uq(k:Ke)(l a b:Rat)(s:Nat)(r:Lq)(h:OkSy k l a b s)(hrl:r.length=k.length)(hr:∀i,i< k.length->qs (coP r i)<=s):
    XSpec Tryz.prog 73 [.lsl 1 0 k.length (some k.length) 1,.agg (qC l),.arr (pE r)] (mzH 3 37 36 (mzO 3 (fun _=>k.length) (fun x=>x) k.length) (fiL (maK k a b) k.length k.length)) 40 (syV k.length (syM k l r a b)) [] 1:=by
 have o:=h.m.l;have n:=h.le;have f:=h.bd hr;refine F7 (maK k a b) l r k.length (slB s k.length) (by omega) hrl h.s (fun i j d e=>by have:=h.q i j d e;omega) (fun i d=>?_) fun c g i j d e=>Nat.le_trans (J5 f c g i j d e) (nw g);have t:=h.q i i d d;have p:=dw (maK k a b i i) l;rw[fw];omega
theorem lE(k:Ke)(l:Rat)(g:Lq)(a b:Rat)(s:Nat)(h:OkSy k l a b s)(hr:∀p∈k,j7 p.2 g/\OkIn (aK p.2 g) a b/\qs (inQ (aK p.2 g) a b)<=s):
    FS 37 [.agg (tkC k l g a b)] (syV k.length (syM k l (rhK k g a b) a b)):=by
 have j:=h.m.l
 have n:=uq k l a b s (rhK k g a b) h (by simp) fun i d=>by
  have e:coP (rhK k g a b) i=inQ (aK k[i].2 g) a b:=by
   unfold coP rhK;rw[List.getD_eq_getElem?_getD];simp[d]
  rw[e];exact(hr _ (List.getElem_mem d)).2.2
 have f:=vu k 98 [bTk k l g a b] (fun p=>inQ (aK p.2 g) a b) (ac (cV k l g a b) af) (by omega) fun p hp=>fs_sys1 k l g a b p (hr p hp).1 (hr p hp).2.1;have c:Closed (syV k.length (syM k l (rhK k g a b) a b)):=fN _ _ _;refine f_n Tryz.func37 ?_ ?_;exact ac (az (ee k l g a b)) af;refine r_z 2 ?_;refine AWp.ent (st':=⟨[(1,bTk k l g a b),(2,.lptr 1 0 0)],[(1,some ⟨113,3,[[.emp,.emp,i64 0]]⟩)],2,18⟩) ?_ ?_;have:=ee k l g a b;exact s_f [(1,2)];refine ae (AWp.regAB 5 14 8 a7 (rA k a b h.m) (n) (c) rfl rfl rfl rfl rfl rfl rfl rfl rfl rfl (by kernel_rfl) rfl rfl rfl ?_)
 first|refine AY.op0 (.fieldAddr_l rfl TF.h (by decide)) rfl rfl ?_|refine AY.op0 (.fieldAddr_a rfl TF.h (by decide)) rfl rfl ?_
 first|refine AY.op0 (.fieldAddr_l rfl TF.h (by decide)) rfl rfl ?_|refine AY.op0 (.fieldAddr_a rfl TF.h (by decide)) rfl rfl ?_
 first|refine AY.op0 (.load_l1 rfl rfl rfl TG.h rfl) rfl rfl ?_|refine AY.op0 (.load_a1 rfl rfl TG.h rfl) rfl rfl ?_
 first|refine AY.op0 (.fieldAddr_l rfl TF.h (by decide)) rfl rfl ?_|refine AY.op0 (.fieldAddr_a rfl TF.h (by decide)) rfl rfl ?_
 first|refine AY.op0 (.load_l rfl rfl rfl TG.h TS.h (nle rfl)) rfl rfl ?_|refine AY.op0 (.load_a rfl rfl TG.h TS.h (nle rfl)) rfl rfl ?_
 refine AY.sp rfl rfl (kAB.a rfl rfl rfl (ac (aL k) (ac (az (aZ a b)) af)) rfl) ?_
 first|refine AY.op0 (.fieldAddr_l rfl TF.h (by decide)) rfl rfl ?_|refine AY.op0 (.fieldAddr_a rfl TF.h (by decide)) rfl rfl ?_
 first|refine AY.op0 (.fieldAddr_l rfl TF.h (by decide)) rfl rfl ?_|refine AY.op0 (.fieldAddr_a rfl TF.h (by decide)) rfl rfl ?_
 first|refine AY.op0 (.load_l rfl rfl rfl TG.h TS.h (nle rfl)) rfl rfl ?_|refine AY.op0 (.load_a rfl rfl TG.h TS.h (nle rfl)) rfl rfl ?_
 first|refine AY.op0 (.fieldAddr_l rfl TF.h (by decide)) rfl rfl ?_|refine AY.op0 (.fieldAddr_a rfl TF.h (by decide)) rfl rfl ?_
 first|refine AY.op0 (.fieldAddr_l rfl TF.h (by decide)) rfl rfl ?_|refine AY.op0 (.fieldAddr_a rfl TF.h (by decide)) rfl rfl ?_
 first|refine AY.op0 (.load_l1 rfl rfl rfl TG.h rfl) rfl rfl ?_|refine AY.op0 (.load_a1 rfl rfl TG.h rfl) rfl rfl ?_
 refine AY.op0 (.makeFunc rfl rfl) rfl rfl ?_;refine AY.op0 (.call rfl rfl rfl (f)) rfl rfl ?_;refine AY.sp rfl rfl (kAB.b rfl rfl (ArgsB.own (ArgsB.clo rfl (az (bC l)) (ArgsB.clo rfl (aB _) ArgsB.nil))) rfl) ?_;refine AY.on1 (.store rfl rfl rfl rfl rfl rfl TS.h (nle rfl)) rfl ?_;refine AY.nil ⟨by kernel_rfl,?_⟩;exact ai (c_e (c))
end Go.Proofs.YtkbjakfniejkcaaGreatDoor
