/- Part Y22 of the proof. -/
import Derived.Test.YtjmkjicckobojaaGreatDoorY21
set_option linter.all false
namespace Go.Proofs.YtjmkjicckobojaaGreatDoor
open Go.Abs
set_option maxRecDepth 20000
abbrev bP(p:Lq):AV:= .aptr [[.arr (pE p)]] 0 0
abbrev bQ(q:Rat):AV:= .aptr [qC q] 0 0
theorem b9(p:Lq):Closed (bP p):=aN (ac (aw p) af)
theorem cO(q:Rat):Closed (bQ q):=aN (bi q)
theorem fs_Add1(p q:Lq)(i:Nat)(hp:smL p)(hq:smL q):FS 175 [i64 i,bP p,bP q] (.agg (qC (coP p i+coP q i))):=by
 refine f_c Tryz.func175 ?_;refine r_z 1 ?_;refine ae (r_d ba 8 ?_);refine c_s (fs_at p i) ?_;refine c_s (fs_at q i) ?_;refine c_s (eS (coP p i) (coP q i) (sm2 (pL hp i) (pL hq i))) ?_;refine a_1 ?_;refine aq (n_k ?_);exact ak (c_e (aU _))
theorem nU(p q:Lq)(hp:smL p)(hq:smL q)(hp1:p.length<=1099511627776)(hq1:q.length<=1099511627776):FS 82 [.arr (pE p),.arr (pE q)] (.arr (pE (ec p q))):=by
 refine f_c Tryz.func82 ?_;refine r_z 3 ?_;refine AWp.ent (st':=⟨[(2,bP p),(3,bP q)],[],1,12⟩) ?_ ?_;exact s_e []
 have b:(if ((q.length:Nat):Int)>(p.length:Nat) then((q.length:Nat):Int) else(p.length:Nat))=((max p.length q.length:Nat):Int):=by
  rw[Nat.max_def];split <;> split <;> omega
 have a:=uR (max p.length q.length) (λi=>coP p i+coP q i) 175 [bP p,bP q] (OT.2 ⟨hp1,hq1⟩) (ac (b9 p) (ac (b9 q) af)) (λi _=>fs_Add1 p q i hp hq);rw[<-b] at a;refine r_c 8 (a) ?_;refine a_z ?_;exact ak (t_e (aw _))
theorem It(p:Lq)(k:Rat)(i:Nat)(hp:smL p)(hk:sm k)(hi:i< p.length):FS 177 [i64 i,bP p,bQ k] (.agg (qC (coP p i* k))):=by
 have a:(pE p)[((i:Nat):Int).toNat]?=some (qC (coP p i)):=pE_get (cm hi);refine f_c Tryz.func177 ?_;refine r_z 1 ?_;refine ae (r_d ba 7 ?_);refine a_2 ?_;refine i_x a ?_;refine l_x a ?_;refine c_s (cQ (coP p i) k (sm2 (pL hp i) hk)) ?_;refine a_1 ?_;refine aq (n_k ?_);exact ak (c_e (aU _))
theorem eY(p:Lq)(k:Rat)(hp:smL p)(hk:sm k)(hp1:p.length<=1099511627776):FS 85 [.arr (pE p),.agg (qC k)] (.arr (pE (aW p k))):=by
 have a:=uR p.length (λi=>coP p i* k) 177 [bP p,bQ k] hp1 (ac (b9 p) (ac (cO k) af)) (λi b=>It p k i hp hk b);refine f_c Tryz.func85 ?_;refine r_z 3 ?_;refine AWp.ent (st':=⟨[(2,bP p),(3,bQ k)],[],1,9⟩) ?_ ?_;exact s_e [];refine r_c 5 (a) ?_;refine a_z ?_;exact ak (t_e (aw _))
theorem hZ(a b:Rat)(hb:b≠0)(h:qs a+qs b<=549755813888):FS 218 [.agg (qC a),.agg (qC b)] (.agg (qC (a/ b))):=by
 refine f_c Tryz.func218 ?_;refine r_z 3 ?_;refine r_c 9 (Al a b hb h) ?_;refine a_z ?_;refine r_z 2 ?_;exact ak (c_e (aU _))
theorem lf(a:Rat):FS 235 [.agg (qC a)] (.arr (pE (dk a))):=by
 refine f_c Tryz.func235 ?_;refine r_z 2 ?_;refine s_r 4 ?_;refine a_2 ?_;refine o_1 (.callS1 rfl rfl rfl (.shut rfl d_n (.nil)) rfl ((ee [a] ψ))) ?_;refine a_z ?_;exact ak (t_e (aw _))
theorem fs_line(a:Rat):FS 253 [.agg (qC a)] (.arr (pE [a,1])):=by
 refine f_c Tryz.func253 ?_;refine r_z 2 ?_;refine ae (r_d ba 4 ?_);refine c_s (dM 1 δ) ?_;refine a_2 ?_;refine aq (n_k ?_);exact ak (Fin.tmpS rfl rfl rfl rfl (aK [a,1]))
theorem sm_neg1{a:Rat}(h:sm a):sm (a* (-1)):=by
 unfold sm at *
 rw[show a* (-1)= -a by rw[Rat.mul_comm,Rat.neg_mul,O6],fa];exact h
theorem qs_inv(b:Rat)(hb:b≠0):qs (1/ b)<=qs b:=by
 rw[tF 1 b hb];have d:b.num≠0:=λe=>hb (MV.1 e);have a:=eJ b;have c:=eu b
 refine gf (by have:0< b.num.natAbs:=ω
               show 0< 1* b.num.natAbs;omega) ?_ ?_
 show bl ((1:Int) * sgn (decide (b.num< 0)) b.den).natAbs<=qs b;rw[Int.one_mul,ga];exact c;show bl (1* b.num.natAbs)<=qs b;rw[Kk];exact a
theorem DX{q:Lq}(h:smL q):smL (aW q (-1)):=by
 refine vr λx a=>?_;obtain⟨i,_,rfl⟩:=sd.1 a;exact sm_neg1 (pL h i)
theorem wD(p q:Lq)(hp:smL p)(hq:smL q)(hp1:p.length<=1099511627776)(hq1:q.length<=1099511627776):FS 173 [.arr (pE p),.arr (pE q)] (.arr (pE (dC p q))):=by
 have a:=du q (-1);refine f_c Tryz.func173 ?_;refine r_z 1 ?_;refine r_c 6 (dM (-1) δ) ?_;refine c_s (eY q (-1) hq δ hq1) ?_;refine c_s (nU p (aW q (-1)) hp (DX hq) hp1 ω) ?_;refine a_z ?_;exact ak (t_e (aw _))
theorem wv(p:Lq)(hp:smL p)(hp1:p.length<=1099511627776):FS 237 [.arr (pE p)] (.arr (pE (cV p))):=by
 have a:=KC hp;refine f_c Tryz.func237 ?_;refine r_z 1 ?_;refine ae (r_c 3 (ce p hp1) ?_);refine a_z ?_;refine au rfl (λh=>?_) (λh=>?_)
 have d:am p=[]:=by
  have b:a8 p< 0:=by simpa using h
  unfold a8 at b;exact vv.1 ω
 refine r_z 1 ?_;refine ak ?_;unfold cV;rw[if_pos d];exact Fin.tmpN rfl
 have d:am p≠[]:=by
  intro e;have b:¬a8 p< 0:=by simpa using h
  unfold a8 at b;rw[e] at b;exact b δ
 have c:=df d;have f:=qs_inv (aL p) c;unfold sm at a;have b:qs 1=1:=δ
 unfold cV;rw[if_neg d];refine an (r_c 7 (dM 1 δ) ?_);refine c_s (lh p hp1) ?_;refine c_s (hZ 1 (aL p) c ω) ?_;refine c_s (eY p (1/ aL p) hp (by unfold sm;omega) hp1) ?_;refine a_z ?_;exact ak (t_e (aw _))
theorem BG(i:Nat)(h:i<=1099511627776):qs (((i:Nat):Int):Rat)<=64:=by
 refine OT.2 ⟨?_,?_⟩;show bl ((i:Int)).natAbs<=64;rw[y2];exact fx ω;show bl 1<=64;decide
theorem E4(p:Lq)(i:Nat)(hp:smL p)(hi:i+1< p.length)(hp1:p.length<=1099511627776):FS 239 [i64 i,bP p] (.agg (qC (coP p (i+1) * ((i+1:Nat):Int)))):=by
 have a:(pE p)[(((i:Nat):Int)+1).toNat]?=some (qC (coP p (i+1))):=by
  rw[show(((i:Nat):Int)+1).toNat=i+1 by omega];exact pE_get (cm hi)
 have hs:=pL hp (i+1);have c:=BG (i+1) ω;unfold sm at hs;have b:=dM (((i:Nat):Int)+1) ω;rw[show((i:Nat):Int)+1=((i+1:Nat):Int) by omega] at b;refine f_c Tryz.func239 ?_;refine r_z 1 ?_;refine ae (r_d ba 10 ?_);refine a_3 ?_;refine i_x a ?_;refine l_x a ?_;refine c_s (b) ?_;refine c_s (cQ (coP p (i+1)) ((i+1:Nat):Int) ω) ?_;refine a_1 ?_;refine aq (n_k ?_);exact ak (c_e (aU _))
theorem oK(p:Lq)(hp:smL p)(hp1:p.length<=1099511627776):FS 184 [.arr (pE p)] (.arr (pE (aQ p))):=by
 have a:=uR (p.length- 1) (λi=>coP p (i+1) * ((i+1:Nat):Int)) 239 [bP p] ω (ac (b9 p) af) (λi c=>E4 p i hp ω hp1);have b:(if (0:Int)>((p.length:Nat):Int)- 1 then(0:Int) else((p.length:Nat):Int)- 1)=((p.length- 1:Nat):Int):=by split <;> omega
 rw[<-b] at a;refine f_c Tryz.func184 ?_;refine r_z 2 ?_;refine AWp.ent (st':=⟨[(1,bP p)],[],1,9⟩) ?_ ?_;exact s_e [];refine r_c 7 (a) ?_;refine a_z ?_;exact ak (t_e (aw _))
theorem Ao(p:Lq)(i:Nat)(hp:smL p)(hi:i< p.length+1)(hp1:p.length<=1099511627775):FS 236 [i64 i,bP p] (.agg (qC (if i=0 then 0 else coP p (i- 1) / ((i:Nat):Int)))):=by
 refine f_c Tryz.func236 ?_;refine r_z 1 ?_;refine ae (r_z 2 ?_);refine au rfl (λh=>?_) (λh=>?_)
 have a:i=0:=by
  have c:(i:Int)=0:=by simpa using h
  omega
 rw[if_pos a];refine r_z 2 ?_;refine ak (Fin.cell rfl rfl rfl TG.h TS.h (nle rfl) (Cv.agg ?_));rw[qC0];exact ai (Cv.emp _) (ai (ao aE (ah _)) (ai (Cv.emp _) av))
 have a:i≠0:=by
  intro e;have c:¬(i:Int)=0:=by simpa using h
  omega
 rw[if_neg a]
 have b:(pE p)[(((i:Nat):Int)- 1).toNat]?=some (qC (coP p (i- 1))):=by
  rw[show(((i:Nat):Int)- 1).toNat=i- 1 by omega];exact pE_get (cm ω)
 have hs:=pL hp (i- 1);have d:=BG i ω;unfold sm at hs;refine an (ae (r_d ba 9 ?_));refine a_3 ?_;refine i_x b ?_;refine l_x b ?_;refine c_s (dM ((i:Nat):Int) ω) ?_;refine c_s (hZ (coP p (i- 1)) ((i:Nat):Int) (by intro e;have e2:=congrArg Rat.num e;simp at e2;omega) ω) ?_;refine a_1 ?_;refine aq (n_k ?_);exact ak (c_e (aU _))
theorem nS(p:Lq)(hp:smL p)(hp1:p.length<=1099511627775):FS 180 [.arr (pE p)] (.arr (pE (aH p))):=by
 have a:=uR (p.length+1) (λi=>if i=0 then 0 else coP p (i- 1) / ((i:Nat):Int)) 236 [bP p] ω (ac (b9 p) af) (λi b=>Ao p i hp b hp1);rw[show((p.length+1:Nat):Int)=((p.length:Nat):Int)+1 by omega] at a;refine f_c Tryz.func180 ?_;refine r_z 2 ?_;refine AWp.ent (st':=⟨[(1,bP p)],[],1,8⟩) ?_ ?_;exact s_e [];refine r_c 6 (a) ?_;refine a_z ?_;exact ak (t_e (aw _))

def mulS(p:Lq)(q:Lq):Nat×Lq->AState
 |(i,o)=>⟨[(1,.arr (pE q)),(5,.lsl 1 0 o.length (some o.length) 3),(25,.arr (pE p)),(26,i64 p.length),(27,i64 i)],[(1,some ⟨42,3,pE o⟩)],2,61⟩
def mulT(p:Lq)(q:Lq)(i:Nat)(a:Rat):Nat×Lq->AState
 |(k,o)=>⟨[(1,.arr (pE q)),(5,.lsl 1 0 o.length (some o.length) 3),(6,i64 i),(7,.lptr 2 0 0),(25,.arr (pE p)),(26,i64 p.length),(27,i64 i),(35,.arr (pE q)),(36,i64 q.length),(37,i64 k)],[(1,some ⟨42,3,pE o⟩),(2,some ⟨42,3,[qC a]⟩)],3,61⟩
theorem pz(p q:Lq)(s t:Nat)(hp:bdL p s)(hq:bdL q t)(hs:1<=s)(ht:1<=t)(h:p.length* (s+t+1)+1<=137438953472)(ht2:t<=137438953472)(hp1:p.length<=274877906944)(hq1:q.length<=274877906944):FS 29 [.arr (pE p),.arr (pE q)] (.arr (pE (aG p q))):=by
 refine f_c Tryz.func29 ?_;refine r_z 1 ?_;refine bD (λ_:Unit=>⟨[(0,.arr (pE p)),(1,.arr (pE q))],[],1,61⟩) (λ_=>p≠[]/\q≠[]) ?_ ?_;by_cases h1:p=[];subst h1;refine s_r 8 ?_;refine a_4 ?_;refine n_g rfl ψ ?_;refine n_g rfl ψ ?_;refine n_g rfl ψ ?_;refine o_0 (.pickT rfl ψ rfl) ?_;refine aq ?_;refine au rfl (λh=>?_) (λh=>?_);refine r_z 1 ?_;refine ak ?_;unfold aG;rw[if_pos (.inl rfl)];exact Fin.tmpN rfl;cases h;have hp0:p.length≠0:=λe=>h1 (vv.1 e);refine s_r 8 ?_;refine a_4 ?_;refine y_g rfl ζ (.move rfl) ?_;refine y_g rfl ζ (.lenP rfl rfl rfl rfl te_62.h) ?_;refine y_g rfl ζ (.bin rfl rfl cK) ?_;refine o_0 (.pickF rfl ζ rfl) ?_;refine aq ?_;refine au rfl (λh2=>?_) (λh2=>?_)
 have hq0:q=[]:=by
  have:q.length=0:=by simpa using h2
  exact vv.1 this
 refine r_z 1 ?_;refine ak ?_;unfold aG;rw[if_pos (.inr hq0)];exact Fin.tmpN rfl
 have hq0:q≠[]:=by
  have:¬q.length=0:=by simpa using h2
  exact λe=>this (by rw[e];rfl)
 refine an ⟨(),⟨h1,hq0⟩,?_⟩;exact s_e [];rintro _ ⟨hp0,hq0⟩;have hpl:=nB.2 hp0;have hql:=nB.2 hq0;have hN:(p.length:Int)+q.length- 1=((p.length+q.length- 1:Nat):Int):=ω
 refine s_r 8 ?_;refine a_6 ?_;refine o_1 (.makeSlice (l:=p.length+q.length- 1) (c:=p.length+q.length- 1) (by rw[<-hN];rfl) (by rw[<-hN];rfl) te_62.h TZ.h rfl TB.h κ κ ι) ?_;refine a_z ?_;refine ae (r_z 3 ?_);have hbd:=λi=>uH (dc hp hs) (dc hq ht) i
 have hbi:∀i,i<=p.length->i* (s+t+1)+1<=137438953472:=λi hi=>by
  have:=mC (s+t+1) hi;omega
 have hs2:s<=137438953472:=by
  have:=hbi 1 hpl;omega
 refine aJ (λ_:Unit=>mulS p q (p.length,fC p q p.length)) (λ_=>True) ?_ ?_;refine aj (aC (λi:Nat=>mulS p q (i,fC p q i)) (λi=>p.length- i) (λi=>i<=p.length) 0 (mN _) ?_ ?_);simp only[mulS.eq_1,fC];exact s_x [(1,5)] (λhs=>dJ) (λhs=>e_36);rintro i hi;simp only[mulS.eq_1];refine r_z 1 ?_;refine ae (au rfl (λh=>?_) (λh=>?_));refine an ?_;have hlt:i< p.length:=by simpa using h
 have hgp:(pE p)[((i:Nat):Int).toNat]?=some (qC (coP p i)):=pE_get (cm hlt);refine ae (aj (s_r 6 ?_));refine a_1 ?_;refine i_x hgp ?_;refine l_x hgp ?_;refine a_z ?_;refine ae (r_c 3 (cX (coP p i)) ?_);refine a_z ?_;refine au rfl (λh1=>?_) (λh1=>?_)
 have h0:coP p i=0:=by
  have h1:sgZ (coP p i).num=0:=by simpa using h1
  exact sgZ_num_eq.1 h1
 have hst:fC p q (i+1)=fC p q i:=by rw[fC,if_pos h0]
 refine ay (r_m 2 ?_);refine a_z ?_;refine⟨i+1,ω,hlt,?_⟩;simp only[mulS.eq_1,hst];exact s_e []
 have h0:coP p i≠0:=by
  intro e;have h1:¬sgZ (coP p i).num=0:=by simpa using h1
  exact h1 (sgZ_num_eq.2 e)
 have hst:fC p q (i+1)=kN (fC p q i) (coP p i) q i q.length:=by rw[fC,if_neg h0]
 refine an (r_z 3 ?_);refine AWp.cutB (λ_:Unit=>mulS p q (i,fC p q (i+1))) (λ_=>True) ?_ ?_;refine aj (aC (λk:Nat=>mulT p q i (coP p i) (k,kN (fC p q i) (coP p i) q i k)) (λk=>q.length- k) (λk=>k<=q.length) 0 (mN _) ?_ ?_);simp only[mulT.eq_1,kN];exact s_e [(2,7)];rintro k hk;simp only[mulT.eq_1];refine r_z 1 ?_;refine ae (au rfl (λh2=>?_) (λh2=>?_));refine an ?_;have hlt2:k< q.length:=by simpa using h2
 have hgq:(pE q)[((k:Nat):Int).toNat]?=some (qC (coP q k)):=pE_get (cm hlt2);refine ae (aj (s_r 6 ?_));refine a_1 ?_;refine i_x hgq ?_;refine l_x hgq ?_;refine a_z ?_;have hb1:=hbd i;have hb2:=hbi (i+1) hlt;have hb3:=hbi i hi
 have hcur:qs (coP (kN (fC p q i) (coP p i) q i k) (i+k))<=137438953472:=by
  rw[vI _ _ _ _ _ _ ω];exact fo (hb1 (i+k)) hb3
 have hab:=cP (coP p i) (coP q k);have hqa:=dc hp hs i;have hqb:=dc hq ht k;have hik:i+k< (kN (fC p q i) (coP p i) q i k).length:=χ
 have hgo:(pE (kN (fC p q i) (coP p i) q i k))[(0+(((i:Nat):Int)+(k:Nat)).toNat)]?=some (qC (coP (kN (fC p q i) (coP p i) q i k) (i+k))):=by
  rw[show 0+(((i:Nat):Int)+(k:Nat)).toNat=i+k by omega];exact pE_get (cm hik)
 refine r_d ba 16 ?_;refine a_8 ?_;refine a_1 ?_;refine bZ (.load_l rfl rfl hgo TG.h TS.h (nle rfl)) rfl rfl ?_;refine c_s (cQ (coP p i) (coP q k) ω) ?_;refine c_s (eS (coP (kN (fC p q i) (coP p i) q i k) (i+k)) (coP p i* coP q k) ω) ?_;refine a_1 ?_;refine eK (.store rfl rfl hgo rfl rfl rfl TS.h (nle rfl)) ?_;refine aq (n_k ?_);refine r_m 2 ?_;refine a_z ?_;refine⟨k+1,ω,hlt2,?_⟩
 have hst2:(pE (kN (fC p q i) (coP p i) q i k)).set (0+(((i:Nat):Int)+(k:Nat)).toNat) (qC (coP (kN (fC p q i) (coP p i) q i k) (i+k)+coP p i* coP q k))=pE (kN (fC p q i) (coP p i) q i (k+1)):=by
  rw[show 0+(((i:Nat):Int)+(k:Nat)).toNat=i+k by omega,jg];rfl
 have hl2:(kN (fC p q i) (coP p i) q i (k+1)).length=(kN (fC p q i) (coP p i) q i k).length:=ψ
 simp only[mulT.eq_1,hl2];exact s_x [] (λhs=>dJ) (λhs=>e_37) e_9
 have hge:k=q.length:=by
  have:¬k< q.length:=by simpa using h2
  omega
 subst hge;refine ay ⟨(),trivial,?_⟩;simp only[mulS.eq_1,hst];exact s_e [];rintro _ _;simp only[mulS.eq_1];refine r_m 2 ?_;refine a_z ?_;refine⟨i+1,ω,hlt,?_⟩;exact s_e []
 have hge:i=p.length:=by
  have:¬i< p.length:=by simpa using h
  omega
 subst hge;refine ay ⟨(),trivial,?_⟩;simp only[mulS.eq_1];exact s_e [];rintro _ _;simp only[mulS.eq_1]
 have hfull:List.take (fC p q p.length).length (List.drop 0 (pE (fC p q p.length)))=pE (fC p q p.length):=by
  rw[sr,nk ψ]
 have hfin:aG p q=am (fC p q p.length):=by
  unfold aG;rw[if_neg (by rintro(h|h);exact hp0 h;exact hq0 h)]
 rw[hfin];refine s_r 3 ?_;refine a_1 ?_;refine o_1 (.callS1 rfl rfl rfl (.shut rfl d_n (.nil)) rfl ((by rw[hfull];exact ee (fC p q p.length) χ))) ?_;refine a_z ?_;exact ak (t_e (aw _))
theorem J9(l:Lq)(h0:l≠[])(hl:l.length<=1099511627776):OSpec Tryz.prog 145 [.arr (pE l)] 42 3 (pE l):=by
 have a:pE l≠[]:=by
  intro e;exact h0 (vv.1 (by rw[<-xZ,e];rfl))
 refine OSpec.enter Tryz.func145 rfl ξ rfl rfl rfl ?_ ?_ rfl ?_;exact ac (aP (aK _)) af;exact aK l;refine r_z 1 ?_;refine ae (s_r 2 ?_);refine a_1 ?_;refine bZ (.nilq_arr rfl (a) rfl te_62.h) rfl rfl ?_;refine aq ?_;refine cF ?_
 ·refine an (s_r 4 ?_)
  refine a_2 ?_;refine o_2 (.append_l rfl rfl rfl te_62.h rfl rfl rfl rfl rfl d_o ν θ rfl (.arr (mM _)) TZ.h rfl TB.h d_o μ) ?_;refine a_z ?_;exact ak (FinO.tmp rfl rfl rfl ψ)
theorem os_Trim(l:Lq)(h0:am l≠[])(hl:l.length<=1099511627776):OSpec Tryz.prog 88 [.arr (pE l)] 42 3 (pE (am l)):=by
 refine OSpec.enter Tryz.func88 rfl ξ rfl rfl rfl ?_ ?_ rfl ?_;exact ac (aP (aK _)) af;exact aK _;refine r_z 1 ?_;refine r_z 3 ?_;refine bD (trS l) (λn=>n<=l.length/\am l=l.take n) ?_ ?_;refine aj (aC (trS l) (λn=>n) (λn=>n<=l.length/\am l=am (l.take n)) l.length ⟨ir _,by rw[qj]⟩ ?_ ?_);simp only[trS.eq_1];exact s_e [];rintro n ⟨g,a⟩;rw[trS.eq_1];cases n with
 |zero=>exact absurd (a.trans rfl) h0
 |succ n=>
  obtain⟨q,f⟩:∃q,l[n]?=some q:=⟨_,eT ω⟩
  have b:(pE l)[(((n+1:Nat):Int)- 1).toNat]?=some (qC q):=by
   rw[show(((n+1:Nat):Int)- 1).toNat=n by omega];exact pE_get f
  have hs:am (l.take (n+1))=if q=0 then am (l.take n) else l.take (n+1):=by
   rw[cZ f,mF]
  refine ae (s_r 11 ?_);refine a_3 ?_;refine y_g rfl ζ (.move rfl) ?_;refine y_g rfl ζ (.move rfl) ?_;refine y_g rfl ζ (.bin rfl rfl (rV ω)) ?_;refine y_g rfl ζ (.index_a rfl rfl ω b rfl te_62.h) ?_;refine y_g rfl ζ (.load_a rfl b TG.h TS.h (nle rfl)) ?_;refine y_g rfl ζ (.call rfl rfl rfl (cX q)) ?_;refine y_g rfl ζ (.bin rfl rfl cK) ?_;refine o_0 (.pickT rfl ζ rfl) ?_;refine aq ?_;refine au rfl (λh=>?_) (λh=>?_)
  have h0:q=0:=by
   have c:sgZ q.num=0:=by simpa using h
   exact sgZ_num_eq.1 c
  refine an (aj (r_m 3 ?_));refine a_z ?_;refine⟨n,Ed n,⟨ω,?_⟩,?_⟩;rw[a,hs,if_pos h0];simp only[trS.eq_1];exact s_e []
  have h0:q≠0:=by
   intro e;have c:¬sgZ q.num=0:=by simpa using h
   exact c (sgZ_num_eq.2 e)
  refine ay ⟨n+1,⟨g,?_⟩,?_⟩;rw[a,hs,if_neg h0];simp only[trS.eq_1];exact s_e []
 rintro n ⟨g,a⟩;rw[trS.eq_1];rw[a] at h0;have d:=J9 (l.take n) h0 χ;refine s_r 5 ?_;refine a_2 ?_;refine o_0 (.sa_h rfl rfl (h:=n) rfl χ te_62.h (mM _)) ?_;refine o_1 (.callO rfl rfl rfl ((by rw[uF];exact d))) ?_;refine a_z ?_;refine ak ?_;rw[a];exact FinO.tmp rfl rfl rfl ψ
def dvS(q:Lq)(lead:Rat):Nat×Lq×Lq->AState
 |(c,u,o)=>⟨[(0,.lsl 1 0 o.length none 3),(1,.arr (pE q)),(4,.lsl 2 0 u.length (some u.length) 3),(6,.lptr 3 0 0),(7,i64 ((c:Int)- 1))],[(1,some ⟨42,3,pE o⟩),(2,some ⟨42,3,pE u⟩),(3,some ⟨42,3,[qC lead]⟩)],4,82⟩
def dvT(q:Lq)(lead:Rat)(n:Nat)(u:Lq)(k:Rat):Nat×Lq->AState
 |(i,o)=>⟨[(0,.lsl 1 0 o.length none 3),(1,.arr (pE q)),(4,.lsl 2 0 u.length (some u.length) 3),(6,.lptr 3 0 0),(7,i64 n),(8,.lptr 4 0 0),(55,.arr (pE q)),(56,i64 q.length),(57,i64 i)],[(1,some ⟨42,3,pE o⟩),(2,some ⟨42,3,pE u⟩),(3,some ⟨42,3,[qC lead]⟩),(4,some ⟨42,3,[qC k]⟩)],5,82⟩
theorem ma(p q:Lq)(s t:Nat)(hp:bdL p s)(hq:bdL q t)(hs:1<=s)(ht:1<=t)(h:2^ ((am p).length+1- (am q).length) * (s+2* t+1)<=137438953472)(hq0:am q≠[])(hp1:p.length<=274877906944)(hq1:q.length<=274877906944):FS 238 [.arr (pE p),.arr (pE q)] (.tup [.arr (pE (bJ p q).1),.arr (pE (bJ p q).2)]):=by
 have hlp:=bm p;have hlq:=bm q;have hql:=nB.2 hq0
 have hg:(pE (am q))[(((am q).length:Int)- 1).toNat]?=some (qC (aL q)):=by
  rw[show(((am q).length:Int)- 1).toNat=(am q).length- 1 by omega];exact pE_get (dt ω)
 have hne:=df hq0;obtain⟨m,hm⟩:∃m,m=(am p).length+1- (am q).length:=⟨_,rfl⟩;have hmx:(if (0:Int)>((am p).length:Int)- (am q).length+1 then(0:Int) else((am p).length:Int)- (am q).length+1)=(m:Int):=by split <;> omega
 have hB:Fh (am q) (aL q) 137438953472 m (List.replicate m 0) (am p):=by
  refine⟨s,t,dc (λx hx=>hp x (cS hx)) hs,dc (λx hx=>hq x (cS hx)) ht,hq _ (cS (mc (dt (n:=(am q).length- 1) ω))),ht,λn=>?_,by rw[hm];exact h⟩
  have:coP (List.replicate m 0) n=0:=by
   unfold coP;rw[jH,MS];split <;> rfl
  rw[this];decide
 have hdv:bJ p q=(am (j9 (am q) (aL q) m (List.replicate m 0) (am p)).1,am (j9 (am q) (aL q) m (List.replicate m 0) (am p)).2):=by rw[hm];rfl
 rw[hdv];refine f_c Tryz.func238 ?_;refine r_z 2 ?_;by_cases hp0:am p=[]
 ·have hm0:m=0:=by rw[hm,hp0];simp;omega
  subst hm0;rw[hp0] at hmx⊢;have htp:=ee p ω;rw[hp0] at htp;refine r_c 6 (htp) ?_;refine c_s (ee q ω) ?_;refine a_z ?_;refine s_r 8 ?_;refine a_4 ?_;refine i_x hg ?_;refine l_x hg ?_;refine a_z ?_;refine s_r 9 ?_;refine a_7 ?_;refine o_1 (.makeSlice (l:=0) (c:=0) (by rw[<-hmx];rfl) (by rw[<-hmx];rfl) te_62.h TZ.h rfl TB.h κ κ ι) ?_;refine a_z ?_;refine ae (r_z 6 ?_);refine aJ (λ_:Unit=>⟨[(0,.arr (pE [])),(4,.lsl 2 0 0 (some 0) 3)],[(2,some ⟨42,3,[]⟩)],3,82⟩) (λ_=>True) ?_ ?_;refine aj (aC (λ_:Unit=>⟨[(0,.arr (pE [])),(4,.lsl 2 0 0 (some 0) 3),(7,i64 (0- ((am q).length:Int)))],[(2,some ⟨42,3,[]⟩)],3,82⟩) (λ_=>0) (λ_=>True) () trivial ?_ ?_);exact s_x [(2,4)] (λhs=>dJ) (λhs=>e_20);rintro _ _;refine ae (r_z 2 ?_);refine au rfl (λh1=>?_) (λh1=>?_);exact absurd h1 χ;refine ay ⟨(),trivial,?_⟩;exact s_x [] (λhs=>dJ) (λhs=>e_20);rintro _ _;refine s_r 6 ?_;refine a_1 ?_;refine o_1 (.callS1 rfl rfl rfl (.shut rfl d_n (.nil)) rfl ((ee [] ψ))) ?_;refine c_s (ee [] ψ) ?_;refine a_z ?_;refine ak (Fin.many ⟨_,_,rfl,rfl,⟨_,_,rfl,rfl,rfl⟩⟩ (nle rfl) ?_);exact ai (ao aE (aw _)) (ai (ao aE (aw _)) av)
 have hpl:=nB.2 hp0;have hto:=os_Trim p hp0 ω;have hdl:=jQ (am q) (aL q) m (List.replicate m 0) (am p);have hend:=AK hB;refine s_r 6 ?_;refine a_1 ?_;refine o_1 (.callO rfl rfl rfl (hto)) ?_;refine c_s (ee q ω) ?_;refine a_z ?_;refine AWp.ent (st':=⟨[(0,.lsl 1 0 (am p).length none 3),(1,.arr (pE (am q)))],[(1,some ⟨42,3,pE (am p)⟩)],2,82⟩) ?_ ?_;exact s_e [(1,0)];refine s_r 8 ?_;refine a_4 ?_;refine i_x hg ?_;refine l_x hg ?_;refine a_z ?_;refine s_r 9 ?_;refine a_7 ?_;refine o_1 (.makeSlice (l:=m) (c:=m) (by rw[<-hmx];rfl) (by rw[<-hmx];rfl) te_62.h TZ.h rfl TB.h κ κ ι) ?_;refine a_z ?_;refine ae (r_z 6 ?_);refine aJ (λx:Lq×Lq=>⟨[(0,.lsl 1 0 x.2.length none 3),(4,.lsl 2 0 x.1.length (some x.1.length) 3)],[(1,some ⟨42,3,pE x.2⟩),(2,some ⟨42,3,pE x.1⟩)],3,82⟩) (λx=>x=j9 (am q) (aL q) m (List.replicate m 0) (am p)) ?_ ?_;refine aj ?_;by_cases hab:(am p).length< (am q).length;have hm0:m=0:=ω
 subst hm0;refine aC (λ_:Unit=>⟨[(0,.lsl 1 0 (am p).length none 3),(4,.lsl 2 0 0 (some 0) 3),(7,i64 (((am p).length:Int)- ((am q).length:Int)))],[(1,some ⟨42,3,pE (am p)⟩),(2,some ⟨42,3,[]⟩)],3,82⟩) (λ_=>0) (λ_=>True) () trivial ?_ ?_;exact s_x [(1,0),(2,4)] (λhs=>dJ) (λhs=>e_20);rintro _ _;refine ae (r_z 2 ?_);refine au rfl (λh1=>?_) (λh1=>?_);exact absurd h1 χ;refine ay ⟨([],am p),rfl,?_⟩;exact s_f [];refine aC (λx:Nat×Lq×Lq=>dvS (am q) (aL q) x) (λx=>x.1) (λx=>x.1<=m/\x.2.1.length=m/\x.2.2.length=(am p).length/\Fh (am q) (aL q) 137438953472 x.1 x.2.1 x.2.2/\j9 (am q) (aL q) x.1 x.2.1 x.2.2=j9 (am q) (aL q) m (List.replicate m 0) (am p)) (m,List.replicate m 0,am p) ⟨ir _,ψ,rfl,hB,rfl⟩ ?_ ?_;simp only[dvS.eq_1];have hm1:((am p).length:Int)- (am q).length=(m:Int)- 1:=ω
 rw[hm1];exact s_x [(1,0),(2,4),(3,6)] (λhs=>dJ) (λhs=>e_36);rintro⟨c,u,o⟩ ⟨hc,hu,ho,hb,hr⟩;simp only at hc hu ho hb hr;simp only[dvS.eq_1];cases c with
 |zero=>
  refine ae (r_z 2 ?_);refine au rfl (λh1=>?_) (λh1=>?_);exact absurd h1 ψ;refine ay ⟨(u,o),hr,?_⟩;exact s_e []
 |succ n=>
  obtain⟨B,tt,hb1,hb2,hb3,hb4⟩:=CY hb;have hcn:((n+1:Nat):Int)- 1=(n:Int):=ω
  rw[hcn];refine ae (r_z 2 ?_);refine au rfl (λh1=>?_) (λh1=>?_);refine an ?_;obtain⟨k,hk⟩:∃k,k=coP o (n+(am q).length- 1) / aL q:=⟨_,rfl⟩;have hst:=yC hb;rw[j9] at hr;rw[<-hk] at hst hr
  have hgo:(pE o)[(0+(((n:Nat):Int)+((am q).length:Nat)- 1).toNat)]?=some (qC (coP o (n+(am q).length- 1))):=by
   rw[show 0+(((n:Nat):Int)+((am q).length:Nat)- 1).toNat=n+(am q).length- 1 by omega];exact pE_get (cm ω)
  have hov:=hZ (coP o (n+(am q).length- 1)) (aL q) hne (by have:=hb1 (n+(am q).length- 1);omega);rw[<-hk] at hov
  have hgu:(pE u)[0+((n:Nat):Int).toNat]?=some (qC (coP u n)):=by
   rw[show 0+((n:Nat):Int).toNat=n by omega];exact pE_get (cm ω)
  refine ae (aj (ae (r_d ba 12 ?_)));refine a_7 ?_;refine bZ (.load_l rfl rfl hgo TG.h TS.h (nle rfl)) rfl rfl ?_;refine c_s (hov) ?_;refine a_2 ?_;refine aq (n_k ?_);refine s_r 5 ?_;refine a_4 ?_;refine eK (.store rfl rfl hgu rfl rfl rfl TS.h (nle rfl)) ?_;refine aq ?_
  have hsu:(pE u).set (0+((n:Nat):Int).toNat) (qC k)=pE (u.set n k):=by
   rw[show 0+((n:Nat):Int).toNat=n by omega,jg]
  have hlu:(u.set n k).length=u.length:=ψ
  refine ae (r_c 3 (cX k) ?_);refine a_z ?_;refine au rfl (λh2=>?_) (λh2=>?_)
  have h0:k=0:=by
   have h2:sgZ k.num=0:=by simpa using h2
   exact sgZ_num_eq.1 h2
  rw[if_pos h0] at hst hr;refine ay (r_m 3 ?_);refine a_z ?_;refine⟨(n,u.set n k,o),Ed n,⟨ω,by simp only;omega,ho,hst,hr⟩,?_⟩;simp only[dvS.eq_1,hlu];exact s_f []
  have h0:k≠0:=by
   intro e;have h2:¬sgZ k.num=0:=by simpa using h2
   exact h2 (sgZ_num_eq.2 e)
  rw[if_neg h0] at hst hr;refine an (r_z 3 ?_);refine AWp.cutB (λ_:Unit=>⟨[(0,.lsl 1 0 o.length none 3),(1,.arr (pE (am q))),(4,.lsl 2 0 u.length (some u.length) 3),(6,.lptr 3 0 0),(7,i64 n)],[(1,some ⟨42,3,pE (gd o k (am q) n (am q).length)⟩),(2,some ⟨42,3,pE (u.set n k)⟩),(3,some ⟨42,3,[qC (aL q)]⟩)],4,82⟩) (λ_=>True) ?_ ?_;refine aj (aC (λi:Nat=>dvT (am q) (aL q) n (u.set n k) k (i,gd o k (am q) n i)) (λi=>(am q).length- i) (λi=>i<=(am q).length) 0 (mN _) ?_ ?_);simp only[dvT.eq_1,gd,hlu];exact s_f [(4,8)];rintro i hi;simp only[dvT.eq_1];refine r_z 1 ?_;refine ae (au rfl (λh3=>?_) (λh3=>?_));refine an ?_;have hlt2:i< (am q).length:=by simpa using h3
  have hgq:(pE (am q))[((i:Nat):Int).toNat]?=some (qC (coP (am q) i)):=pE_get (cm hlt2)
  have hcur:qs (coP (gd o k (am q) n i) (n+i))<=B:=by
   rw[nw _ _ _ _ _ _ ω];exact hb1 _
  have hkq:qs k<=B+tt:=by
   have e1:=fS (coP o (n+(am q).length- 1)) (aL q);have e2:=hb1 (n+(am q).length- 1);rw[hk];omega
  have hkm:=cP k (coP (am q) i);have hqi:=hb2 i;have hik:n+i< (gd o k (am q) n i).length:=χ
  have hgr:(pE (gd o k (am q) n i))[(0+(((n:Nat):Int)+(i:Nat)).toNat)]?=some (qC (coP (gd o k (am q) n i) (n+i))):=by
   rw[show 0+(((n:Nat):Int)+(i:Nat)).toNat=n+i by omega];exact pE_get (cm hik)
  refine ae (aj (s_r 6 ?_));refine a_1 ?_;refine i_x hgq ?_;refine l_x hgq ?_;refine a_z ?_;refine r_d ba 16 ?_;refine a_8 ?_;refine a_1 ?_;refine bZ (.load_l rfl rfl hgr TG.h TS.h (nle rfl)) rfl rfl ?_;refine c_s (cQ k (coP (am q) i) ω) ?_;refine c_s (lC (coP (gd o k (am q) n i) (n+i)) (k* coP (am q) i) ω) ?_;refine a_1 ?_;refine eK (.store rfl rfl hgr rfl rfl rfl TS.h (nle rfl)) ?_;refine aq (n_k ?_);refine r_m 2 ?_;refine a_z ?_;refine⟨i+1,ω,hlt2,?_⟩
  have hst2:(pE (gd o k (am q) n i)).set (0+(((n:Nat):Int)+(i:Nat)).toNat) (qC (coP (gd o k (am q) n i) (n+i)- k* coP (am q) i))=pE (gd o k (am q) n (i+1)):=by
   rw[show 0+(((n:Nat):Int)+(i:Nat)).toNat=n+i by omega,jg];rfl
  have hl2:(gd o k (am q) n (i+1)).length=(gd o k (am q) n i).length:=ψ
  simp only[dvT.eq_1,hl2];exact s_x [] (λhs=>dJ) (λhs=>e_37) e_9
  have hge:i=(am q).length:=by
   have:¬i< (am q).length:=by simpa using h3
   omega
  subst hge;refine ay ⟨(),trivial,?_⟩;rw[iy,hlu];exact s_e [];rintro _ _;refine r_m 3 ?_;refine a_z ?_;refine⟨(n,u.set n k,gd o k (am q) n (am q).length),Ed n,⟨ω,by simp only;omega,by simp only;rw[iy];exact ho,hst,hr⟩,?_⟩;simp only[dvS.eq_1,hlu,iy];exact s_e [];exact absurd h1 ψ
 rintro⟨u,o⟩ hx;rw[<-hx] at hdl hend⊢;simp only at hdl hend⊢;have hlu:u.length<=274877906945:=by rw[hdl.1];simp;omega
 have hfu:List.take u.length (List.drop 0 (pE u))=pE u:=by rw[sr,nk ψ]
 have hfo:List.take o.length (List.drop 0 (pE o))=pE o:=by rw[sr,nk ψ]
 refine s_r 6 ?_;refine a_1 ?_;refine o_1 (.callS1 rfl rfl rfl (.shut rfl d_n (.nil)) rfl ((by rw[hfu];exact ee u ω))) ?_;refine a_1 ?_;refine o_1 (.callS1 rfl rfl rfl (.shut rfl d_n (.nil)) rfl ((by rw[hfo];exact ee o (by rw[hdl.2];omega)))) ?_;refine a_z ?_;refine ak (Fin.many ⟨_,_,rfl,rfl,⟨_,_,rfl,rfl,rfl⟩⟩ (nle rfl) ?_);exact ai (ao aE (aw _)) (ai (ao aE (aw _)) av)
def gcS:Lq×Lq->AState
 |(p,q)=>⟨[(0,.arr (pE p)),(1,.arr (pE q))],[],1,21⟩
theorem EH(p:Lq)(q:Lq):gcS (p,q)=⟨[(0,.arr (pE p)),(1,.arr (pE q))],[],1,21⟩:=rfl
theorem degP_neg{l:Lq}:a8 l< 0↔am l=[]:=by
 unfold a8;constructor;intro h;exact vv.1 ω;intro h;rw[h];decide
theorem LA(f:Nat)(p q g:Lq)(h:ut f p q=some g)(hp1:p.length<=274877906944)(hq1:q.length<=274877906944):FS 265 [.arr (pE p),.arr (pE q)] (.arr (pE g)):=by
 refine f_c Tryz.func265 ?_;refine r_z 1 ?_;refine bD (λp:Lq=>⟨[(0,.arr (pE p))],[],1,21⟩) (λp=>smL p/\p.length<=274877906944/\g=cV p) ?_ ?_;refine aj (aC (λx:Nat×Lq×Lq=>gcS x.2) (λx=>x.1) (λx=>ut x.1 x.2.1 x.2.2=some g/\x.2.1.length<=274877906944/\x.2.2.length<=274877906944) (f,p,q) ⟨h,hp1,hq1⟩ ?_ ?_);simp only[EH];exact s_e [];rintro⟨f,p,q⟩ ⟨h,hp1,hq1⟩;simp only at h hp1 hq1;simp only[EH];cases f with
 |zero=>cases h
 |succ f=>
  rw[ut] at h;refine ae (r_c 3 (ce q ω) ?_);refine a_z ?_;refine au rfl (λb=>?_) (λb=>?_)
  ·have a:am q≠[]:=by
    intro e;have e2:=degP_neg.2 e;simp at b;omega
   rw[if_neg a] at h;split at h
   case isFalse=>cases h
   case isTrue hs=>
   have d:=me (p:=p) (q:=q);have c:=pr (bJ p q).2;refine an (aj (r_c 8 (ma p q (mxL p) (mxL q) (dO p) (dO q) (dB p) (dB q) hs.1 a hp1 hq1) ?_));refine a_z ?_;refine r_m 5 ?_;refine c_s (wv (bJ p q).2 (AL hs a).2 ω) ?_;refine a_z ?_;refine⟨(f,q,cV (bJ p q).2),Ed f,⟨h,hq1,by simp only;omega⟩,?_⟩;simp only[EH];exact s_e []
  ·have a:am q=[]:=by
    refine degP_neg.1 ?_;simp at b;omega
   rw[if_pos a] at h;split at h
   case isFalse=>cases h
   case isTrue hs=>
   cases h;refine ay ⟨p,⟨hs,hp1,rfl⟩,?_⟩;exact s_e []
 rintro p ⟨hs,hp1,rfl⟩;refine r_c 3 (wv p hs ω) ?_;refine a_z ?_;exact ak (t_e (aw _))

theorem lA(l:Lq)(hl:l.length<=281474976710656):GSpec Tryz.prog 241 [bP l] (mA l):=by
 refine GSpec.enter Tryz.func241 rfl ξ rfl rfl rfl ?_ ?_ rfl ?_;exact ac (b9 l) af;intro k xs h;unfold mA at h;split at h;cases h;exact ac (ah _) (ac (aU _) af);cases h;intro b N E;refine GWp.seq ?_;refine GWp.lift ?_;refine r_m 4 ?_;refine a_z ?_;refine GWp.block ?_;refine GWp.loopS (λm:Nat=>⟨[(0,.v (.func (.yield b) #[] #[])),(1,bP l),(3,i64 ((m:Int)- 1))],[],1,19⟩) (λm=>l.length- m) (λm=>m) (λm=>m<=l.length) l.length (ir _) ψ ?_ ?_;exact s_e [];intro m e;refine GWp.seq ?_;refine GWp.seq ?_;refine GWp.lift ?_;refine r_m 2 ?_;refine a_z ?_;refine GWp.cond rfl (λh=>?_) (λh=>?_)
 ·refine GWp.skip ?_
  have d:1<=m:=by have:=of_decide_eq_true h;omega
  have a:(pE l)[((m:Int)- 1).toNat]?=some (qC (coP l (m- 1))):=by rw[show((m:Int)- 1).toNat=m- 1 by omega];exact pE_get (cm ω)
  refine GWp.seq ?_;refine GWp.block ?_;refine GWp.seq ?_;refine GWp.regY (fr2:=[(0,.v (.func (.yield b) #[] #[])),(1,bP l),(3,i64 ((m:Int)- 1)),(11,.v (.func (.yield b) #[] #[])),(12,i64 ((m:Int)- 1)),(16,.agg (qC (coP l (m- 1))))]) (hp2:=[]) (nx2:=1) 6 rfl rfl rfl rfl rfl rfl ?_ rfl rfl rfl ?_ ?_ ?_;refine o_0 (.move rfl) ?_;refine o_0 (.move rfl) ?_;refine bZ (.load_a1 rfl rfl TG.h rfl) rfl rfl ?_;refine o_0 (.move rfl) ?_;refine i_x a ?_;refine l_x a ?_;refine aq ?_;exact s_y [] (λhs=>dJ) (λhs=>lG);rotate_left 2;intro c;refine o_0 (.un rfl nq) ?_;refine aq ?_;rotate_left;unfold mA;rw[if_pos ω];have e1:((l.length- 1- (l.length- m):Nat):Int)=(m:Int)- 1:=ω
  have e2:l.length- 1- (l.length- m)=m- 1:=ω
  rw[e1,e2];rfl;exact ac (ah _) (ac (aU _) af);cases c with
  |false=>
   refine GWp.cond rfl (λh=>?_) (λh=>?_);exact GWp.ret ⟨.inr rfl,λh=>by cases h⟩;cases h
  |true=>
   refine GWp.cond rfl (λh=>?_) (λh=>?_);cases h;refine GWp.skip ?_;refine GWp.lift ?_;refine r_m 3 ?_;refine a_z ?_;refine⟨rfl,m- 1,ω,ω,ω,?_⟩;exact s_e []
 refine GWp.exit ⟨.inl rfl,λ_=>?_⟩;have:m=0:=by have:=of_decide_eq_false h;omega
 subst this;unfold mA;rw[if_neg ω]
theorem lE(l:Lq):FS 190 [.arr (pE l)] (.clos 241 [] [bP l]):=by
 refine f_c Tryz.func190 ?_;refine r_z 2 ?_;refine r_z 2 ?_;refine ak (⟨.inr rfl,[_],⟨_,[],rfl,rfl,rfl⟩,?_⟩);exact Cv.clos av (ai (Cv.boxp aE rfl (λ_ _ h=>by cases h) rfl (ac (aw l) af)) av)
def hoS(p:Lq)(g:Nat)(cap:La)(w:Nat->Rat):Nat->AState
 |k=>⟨[(4,.lptr 1 0 0),(5,.aptr [[.clos g [] cap]] 0 0),(6,.lptr 2 0 0),(10,.clos 241 [] [bP p])],[(1,some ⟨42,3,[qC (w k)]⟩),(2,some ⟨42,3,[zC]⟩)],3,18⟩
theorem EW(p:Lq)(g:Nat)(cap:La)(w:Nat->Rat)(hl:p.length<=281474976710656)(hcap:∀c∈cap,Closed c)(hg:∀k,k< p.length->FS g ((.agg (qC (w k)):: .agg (qC (coP p (p.length- 1- k)))::cap).map coe) (.agg (qC (w (k+1))))):FS 103 [.arr (pE p),.agg (qC (w 0)),.clos g [] cap] (.agg (qC (w p.length))):=by
 have hb:=lE p;have d:=lA p hl;have b:Closed (.clos g [] cap):=aX af hcap;have i:Closed (.aptr [[.clos g [] cap]] 0 0):=aN (ac b af);have f:Closed (.clos 241 [] [bP p]):=aX af (ac (b9 p) af);refine f_c Tryz.func103 ?_;refine r_z 3 ?_;refine AWp.ent (st':=⟨[(0,.arr (pE p)),(4,.lptr 1 0 0),(5,.aptr [[.clos g [] cap]] 0 0),(6,.lptr 2 0 0)],[(1,some ⟨42,3,[qC (w 0)]⟩),(2,some ⟨42,3,[zC]⟩)],3,18⟩) ?_ ?_;have:=ac b af;exact s_f [(1,4),(2,6)];refine ae (r_c 2 (hb) ?_);refine aq ?_;refine aJ (λ_:Unit=>⟨[(4,.lptr 1 0 0),(6,.lptr 2 0 0)],[(1,some ⟨42,3,[qC (w p.length)]⟩),(2,some ⟨42,3,[zC]⟩)],3,18⟩) (λ_=>True) ?_ ?_;refine aj (AWp.rangeFunc (α:=Nat) (γ:=Empty) p.length (hoS p g cap w) (λk=>k) (λk=>k<=p.length) (λe=>nomatch e) (λ_ e=>nomatch e) 0 rfl d rfl rfl ?_ (λ_=>⟨rfl,rfl⟩) (λe=>nomatch e) (mN _) rfl (λ_ h=>h) ?_ ?_ ?_ ?_ (λ_ e=>nomatch e));intro k xs a;unfold mA at a;split at a;cases a;rfl;cases a;rw[hoS.eq_1];exact s_y [] (λhs=>dJ) (λhs=>lG);exact ac (b9 p) af
 ·intro l k xs j a
  unfold mA at a;split at a;rotate_left;cases a;rename_i hlt;cases a;show AWp _ _ _ _ ⟨[(12,.agg (qC (coP p (p.length- 1- k)))),(11,i64 (p.length- 1- k:Nat)),(4,.lptr 1 0 0),(5,.aptr [[.clos g [] cap]] 0 0),(6,.lptr 2 0 0),(10,.clos 241 [] [bP p]),(1004,.lptr 1 0 0),(1005,.aptr [[.clos g [] cap]] 0 0),(1006,.lptr 2 0 0),(1010,.clos 241 [] [bP p])],[(1,some ⟨42,3,[qC (w k)]⟩),(2,some ⟨42,3,[zC]⟩)],3,18⟩;refine r_m 2 ?_;refine a_z ?_;refine aj (r_m 5 ?_);refine c_s (hg k hlt) ?_;refine a_z ?_;refine⟨k+1,⟨hlt,rfl⟩,?_⟩;show SEntT _ ⟨[(1004,.lptr 1 0 0),(1005,.aptr [[.clos g [] cap]] 0 0),(1006,.lptr 2 0 0),(1010,.clos 241 [] [bP p])],[(1,some ⟨42,3,[qC (w (k+1))]⟩),(2,some ⟨42,3,[zC]⟩)],3,18⟩;exact s_y [] (λhs=>dJ) (λhs=>lG)
 intro k j a;unfold mA at a;split at a;cases a;refine⟨(),trivial,?_⟩;rw[hoS.eq_1];have m:k=p.length:=ω
 subst m;exact s_e [];rintro _ _;refine r_z 2 ?_;exact ak (c_e (aU _))
theorem LB(v c x:Rat)(h1:qs v+qs x<=549755813888)(h2:qs (v* x)+qs c<=549755813888):FS 104 [.agg (qC v),.agg (qC c),bQ x] (.agg (qC (v* x+c))):=by
 refine f_c Tryz.func104 ?_;refine r_z 3 ?_;refine ae (r_d ba 6 ?_);refine c_s (cQ v x h1) ?_;refine c_s (eS (v* x) c h2) ?_;refine a_1 ?_;refine aq (n_k ?_);exact ak (c_e (aU _))
theorem fg(p:Lq)(x:Rat)(h:eg p x):FS 35 [.arr (pE p),.agg (qC x)] (.agg (qC (ag p x))):=by
 have c:∀k,k< p.length->FS 104 [.agg (qC (ag (p.drop (p.length- k)) x)),.agg (qC (coP p (p.length- 1- k))),bQ x] (.agg (qC (ag (p.drop (p.length- (k+1))) x))):=λk b=>by
  have:=Fa h k b;rw[tD b];exact LB _ _ _ this.1 this.2
 have a:=EW p 104 [bQ x] (λk=>ag (p.drop (p.length- k)) x) (by have:=h.2;omega) (ac (cO x) af) c;simp only[Oc,Nj,sr,DJ] at a;rw[show ag [] x=0 from rfl,qC0] at a;refine f_c Tryz.func35 ?_;refine r_z 2 ?_;refine AWp.ent (st':=⟨[(0,.arr (pE p)),(3,bQ x),(4,.lptr 1 0 0)],[(1,some ⟨42,3,[zC]⟩)],2,9⟩) ?_ ?_;exact s_e [(1,4)];refine r_c 5 (a) ?_;refine a_z ?_;exact ak (c_e (aU _))
def hsS(p:Lq)(g:Nat)(cap:La)(w:Nat->Rat×Rat):Nat->AState
 |k=>⟨[(4,.lptr 1 0 0),(5,.aptr [[.clos g [] cap]] 0 0),(6,.lptr 2 0 0),(10,.clos 241 [] [bP p])],[(1,some ⟨51,6,[spC (w k).1 (w k).2]⟩),(2,some ⟨51,6,[zC++zC]⟩)],3,18⟩
theorem EV(p:Lq)(g:Nat)(cap:La)(w:Nat->Rat×Rat)(hl:p.length<=281474976710656)(hcap:∀c∈cap,Closed c)(hg:∀k,k< p.length->FS g ((.agg (spC (w k).1 (w k).2):: .agg (qC (coP p (p.length- 1- k)))::cap).map coe) (.agg (spC (w (k+1)).1 (w (k+1)).2))):FS 315 [.arr (pE p),.agg (spC (w 0).1 (w 0).2),.clos g [] cap] (.agg (spC (w p.length).1 (w p.length).2)):=by
 have hb:=lE p;have d:=lA p hl;have b:Closed (.clos g [] cap):=aX af hcap;have i:Closed (.aptr [[.clos g [] cap]] 0 0):=aN (ac b af);have f:Closed (.clos 241 [] [bP p]):=aX af (ac (b9 p) af);refine f_c Tryz.func315 ?_;refine r_z 3 ?_;refine AWp.ent (st':=⟨[(0,.arr (pE p)),(4,.lptr 1 0 0),(5,.aptr [[.clos g [] cap]] 0 0),(6,.lptr 2 0 0)],[(1,some ⟨51,6,[spC (w 0).1 (w 0).2]⟩),(2,some ⟨51,6,[zC++zC]⟩)],3,18⟩) ?_ ?_;have:=ac b af;exact s_f [(1,4),(2,6)];refine ae (r_c 2 (hb) ?_);refine aq ?_;refine aJ (λ_:Unit=>⟨[(4,.lptr 1 0 0),(6,.lptr 2 0 0)],[(1,some ⟨51,6,[spC (w p.length).1 (w p.length).2]⟩),(2,some ⟨51,6,[zC++zC]⟩)],3,18⟩) (λ_=>True) ?_ ?_;refine aj (AWp.rangeFunc (α:=Nat) (γ:=Empty) p.length (hsS p g cap w) (λk=>k) (λk=>k<=p.length) (λe=>nomatch e) (λ_ e=>nomatch e) 0 rfl d rfl rfl ?_ (λ_=>⟨rfl,rfl⟩) (λe=>nomatch e) (mN _) rfl (λ_ h=>h) ?_ ?_ ?_ ?_ (λ_ e=>nomatch e));intro k xs a;unfold mA at a;split at a;cases a;rfl;cases a;rw[hsS.eq_1];exact s_y [] (λhs=>dJ) (λhs=>lG);exact ac (b9 p) af
 ·intro l k xs j a
  unfold mA at a;split at a;rotate_left;cases a;rename_i hlt;cases a;show AWp _ _ _ _ ⟨[(12,.agg (qC (coP p (p.length- 1- k)))),(11,i64 (p.length- 1- k:Nat)),(4,.lptr 1 0 0),(5,.aptr [[.clos g [] cap]] 0 0),(6,.lptr 2 0 0),(10,.clos 241 [] [bP p]),(1004,.lptr 1 0 0),(1005,.aptr [[.clos g [] cap]] 0 0),(1006,.lptr 2 0 0),(1010,.clos 241 [] [bP p])],[(1,some ⟨51,6,[spC (w k).1 (w k).2]⟩),(2,some ⟨51,6,[zC++zC]⟩)],3,18⟩;refine r_m 2 ?_;refine a_z ?_;refine aj (r_m 5 ?_);refine c_s (hg k hlt) ?_;refine a_z ?_;refine⟨k+1,⟨hlt,rfl⟩,?_⟩;show SEntT _ ⟨[(1004,.lptr 1 0 0),(1005,.aptr [[.clos g [] cap]] 0 0),(1006,.lptr 2 0 0),(1010,.clos 241 [] [bP p])],[(1,some ⟨51,6,[spC (w (k+1)).1 (w (k+1)).2]⟩),(2,some ⟨51,6,[zC++zC]⟩)],3,18⟩;exact s_y [] (λhs=>dJ) (λhs=>lG)
 intro k j a;unfold mA at a;split at a;cases a;refine⟨(),trivial,?_⟩;rw[hsS.eq_1];have m:k=p.length:=ω
 subst m;exact s_e [];rintro _ _;refine r_z 2 ?_;exact ak (c_e (ca _ _))
abbrev bS(s:Sp):AV:= .aptr [spC s.1 s.2] 0 0
theorem kx(s:Sp):Closed (bS s):=aN (bh _ _)
theorem Jr{a b:Sp}(h:smL (BM a b)):smS (vp a b):=⟨pO h,pO h⟩
theorem Lv(v s:Sp)(c:Rat)(hv:smS v)(hs:smS s)(hc:sm c)(hp:smL (BM v s)):FS 316 [.agg (spC v.1 v.2),.agg (qC c),bS s] (.agg (spC (F3 (vp v s) (c,c)).1 (F3 (vp v s) (c,c)).2)):=by
 have a:=Jr hp;refine f_n Tryz.func316 ?_ ?_;exact ac (ca _ _) (ac (aU c) (ac (kx s) af));refine r_z 3 ?_;refine ae (r_d ba 7 ?_);refine c_s (fs_SMul v.1 v.2 s.1 s.2 hv.1 hv.2 hs.1 hs.2 hp) ?_;refine c_s (CE c) ?_;refine c_s (fs_SAdd (vp v s).1 (vp v s).2 c c a.1 a.2 hc hc) ?_;refine a_1 ?_;refine aq (n_k ?_);exact ak (c_e (ca _ _))
theorem fs_Over(p:Lq)(s:Sp)(h:zP p s):FS 280 [.arr (pE p),.agg (spC s.1 s.2)] (.agg (spC (ja p s).1 (ja p s).2)):=by
 obtain⟨g,hs,w,f⟩:=h;have r:=bm p;refine f_c Tryz.func280 ?_;refine r_z 2 ?_;refine AWp.ent (st':=⟨[(0,.arr (pE p)),(3,bS s),(4,.lptr 1 0 0)],[(1,some ⟨51,6,[zC++zC]⟩)],2,30⟩) ?_ ?_;exact s_e [(1,4)];refine r_c 3 (ee p ω) ?_;refine a_z ?_;refine bD (λ_:Unit=>⟨[(0,.arr (pE (am p))),(3,bS s),(4,.lptr 1 0 0)],[(1,some ⟨51,6,[zC++zC]⟩)],2,30⟩) (λ_=>eD s.1 s.2<=0/\am p≠[]) ?_ ?_;by_cases hv:eD s.1 s.2<=0;refine r_c 8 (kr s.1 s.2 hs.1 hs.2) ?_;refine a_2 ?_;refine y_g rfl (by simp[hv]) (.move rfl) ?_;refine y_g rfl (by simp[hv]) (.lenP rfl rfl rfl rfl te_62.h) ?_;refine y_g rfl (by simp[hv]) (.bin rfl rfl cK) ?_;refine o_0 (.pickF rfl (by simp[hv]) rfl) ?_;refine aq ?_;refine au rfl (λa=>?_) (λa=>?_)
 have c:am p=[]:=by
  have:(am p).length=0:=by simpa using a
  exact vv.1 this
 have d:ja p s=(0,0):=by unfold ja;rw[if_pos (.inr c)]
 rw[d];refine r_z 2 ?_;refine ak (Fin.cell rfl rfl rfl TG.h TS.h (nle rfl) (Cv.agg ?_));show CvL _ _ _ _ (qC 0++qC 0);rw[qC0];exact ai (Cv.emp _) (ai (ao aE (ah _)) (ai (Cv.emp _) (ai (Cv.emp _) (ai (ao aE (ah _)) (ai (Cv.emp _) av)))))
 have c:am p≠[]:=by
  have:¬(am p).length=0:=by simpa using a
  exact λe=>this (by rw[e];rfl)
 refine an ⟨(),⟨hv,c⟩,?_⟩;exact s_e [];refine r_c 8 (kr s.1 s.2 hs.1 hs.2) ?_;refine a_2 ?_;refine n_g rfl (by simp[hv]) ?_;refine n_g rfl (by simp[hv]) ?_;refine n_g rfl (by simp[hv]) ?_;refine o_0 (.pickT rfl (by simp[hv]) rfl) ?_;refine aq ?_;refine au rfl (λa=>?_) (λa=>?_);have d:ja p s=(0,0):=by unfold ja;rw[if_pos (.inl hv)]
 rw[d];refine r_z 2 ?_;refine ak (Fin.cell rfl rfl rfl TG.h TS.h (nle rfl) (Cv.agg ?_));show CvL _ _ _ _ (qC 0++qC 0);rw[qC0];exact ai (Cv.emp _) (ai (ao aE (ah _)) (ai (Cv.emp _) (ai (Cv.emp _) (ai (ao aE (ah _)) (ai (Cv.emp _) av)))));cases a;rintro _ ⟨hv,c⟩;have o:=nB.2 c
 have d:ja p s=ovP (aL p,aL p) s ((am p).take ((am p).length- 1)):=by
  unfold ja;rw[if_neg (by rintro(e|e);exact e hv;exact c e)]
 obtain⟨l,b⟩:∃l,l=(am p).take ((am p).length- 1):=⟨_,rfl⟩;rw[<-b] at f d;rw[d];have m:l.length=(am p).length- 1:=by rw[b];simp
 have i:∀q∈l,sm q:=λq u=>g q (cS (AG (by rw[<-b];exact u)))
 have v:∀k,k< l.length->FS 316 [.agg (spC (ovP (aL p,aL p) s (l.drop (l.length- k))).1 (ovP (aL p,aL p) s (l.drop (l.length- k))).2),.agg (qC (coP l (l.length- 1- k))),bS s] (.agg (spC (ovP (aL p,aL p) s (l.drop (l.length- (k+1)))).1 (ovP (aL p,aL p) s (l.drop (l.length- (k+1)))).2)):=λk t=>by
  have a:=x8 (l.length- (k+1)) f;rw[tD t] at a⊢;exact Lv _ s _ (okOv_sm a.1) hs a.2.2.1 a.2.1
 have n:=EV l 316 [bS s] (λk=>ovP (aL p,aL p) s (l.drop (l.length- k))) ω (ac (kx s) af) v;simp only[Oc,Nj,sr,DJ] at n
 have j:(pE (am p))[(((am p).length:Int)- 1).toNat]?=some (qC (aL p)):=by
  rw[show(((am p).length:Int)- 1).toNat=(am p).length- 1 by omega];exact pE_get (dt ω)
 refine r_z 4 ?_;refine ae (r_d ba 11 ?_);refine a_2 ?_;refine o_0 (.sa_h rfl rfl (h:=(am p).length- 1) ω ψ te_62.h (mM _)) ?_;refine a_2 ?_;refine i_x j ?_;refine l_x j ?_;refine c_s (CE (aL p)) ?_;refine o_0 (.makeFunc rfl rfl) ?_;refine o_0 (.call rfl rfl rfl ((by rw[uF,<-b];exact n))) ?_;refine eK (.store rfl rfl rfl rfl rfl rfl TS.h (nle rfl)) ?_;refine aq (n_k ?_);exact ak (c_e (ca _ _))
end Go.Proofs.YtjmkjicckobojaaGreatDoor
