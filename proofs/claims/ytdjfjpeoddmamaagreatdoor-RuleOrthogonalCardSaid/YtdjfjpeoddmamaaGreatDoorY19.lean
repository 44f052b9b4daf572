/- For every input the law RuleOrthogonal returns true; the listed variables start as the program's text lays them (tied). -/
import Derived.Test.YtdjfjpeoddmamaaGreatDoorY18
import Derived.Test.YtdjfjpeoddmamaaGreatDoorRows
import Derived.JoinedOf
import Derived.SevenTiedAt
import Derived.Lib.LaidTab
import Derived.Test.YtdjfjpeoddmamaaGreatDoorTie
import Derived.Test.YtdjfjpeoddmamaaGreatDoorCards
import Derived.LaidMore
import Derived.Stop.Joined
import Derived.MakeChecks
set_option linter.all false
namespace Go.Proofs.YtdjfjpeoddmamaaGreatDoor
open Go.Abs
set_option maxRecDepth 20000
set_option maxHeartbeats 4000000
theorem q1_(x:LoR)(most:Nat)(hm:most≤14)(hx:okLo x)(w:Wt)(h:ldW x most=some w)(hv:okW w.m w.l w.r w.a w.b):bdL w.m 3000∧w.m.length≤most+1:=by
 unfold ldW at h
 split at h
 split at h
 cases h
 ·rename_i h1 h2
  cases h
  have hn:x.n≤most:=by
   by_cases e:(most:Int)< x.n
   exact absurd (.inl e) h2
   omega
  have ht:tameB [x.g.1,x.g.2] 2=true:=by
   cases e:tameB [x.g.1,x.g.2] 2 with
   |true=>rfl
   |false=>exact absurd (.inr e) h2
  have okr:okR [x.g.1,x.g.2]:=fun r hr=>by
   simp only[List.mem_cons,List.not_mem_nil,or_false] at hr
   rcases hr with rfl|rfl
   exact hx.2.1.1
   exact hx.2.1.2
  obtain⟨tb,_⟩:=qb_ ht okr
  have qa:qs (nV x.g.1)≤20:=tb _ (by simp[nL])
  have qb:qs (nV x.g.2)≤20:=tb _ (by simp[nL])
  have hz:∀e:Int,okW (wZt,e).1.m (wZt,e).1.l (wZt,e).1.r (wZt,e).1.a (wZt,e).1.b→bdL (wZt,e).1.m 3000∧(wZt,e).1.m.length≤most+1:=fun e he=>absurd he.1 (show¬1≤(0:Nat) by decide)
  revert hv
  unfold gvW
  split
  split
  split
  exact hz 3
  ·rename_i h3
   intro _
   have b5:¬bdN x.n:=fun e=>h3 (.inl e)
   have b6:¬bdP x.p:=fun e=>h3 (.inr (.inl e))
   have b7:¬bdP x.q:=fun e=>h3 (.inr (.inr e))
   unfold bdN at b5
   unfold bdP at b6 b7
   refine⟨jD_ fun k hk=>jc_tame qa qb (by omega) (by omega) (by omega),?_⟩
   show(sqL _ _).length≤most+1
   rw[dH_];omega
  exact hz 2
  split
  split
  exact hz 3
  ·rename_i h3
   intro _
   have b5:¬bdN x.n:=fun e=>h3 (.inl e)
   have b6:¬bdP x.p:=fun e=>h3 (.inr e)
   unfold bdN at b5
   unfold bdP at b6
   refine⟨jD_ fun k hk=>Nat.le_trans (gB_ (n:=x.p.toNat+k) (by omega)) (by decide),?_⟩
   show(sqL _ _).length≤most+1
   rw[dH_];omega
  split
  exact hz 3
  ·rename_i b5
   intro _
   unfold bdN at b5
   refine⟨jD_ fun k hk=>?_,?_⟩
   have:qs (evW (evK (x.k- 2)) k)≤(k/ 2) * 42+1:=by
    unfold evW
    split
    exact oH_ _ fun j hj=>ml_ _ _ (by omega)
    exact Nat.le_trans (by decide:qs 0≤1) (Nat.le_add_left _ _)
   omega
   show(sqL _ _).length≤most+1
   rw[dH_];omega
 split at h
 cases h
 ·rename_i h2
  cases h
  have hl:x.mo.length≤64:=by
   have h1:(nL x.mo).length≤64:=hv.2.1
   simpa[nL] using h1
  have ht:tameB x.mo (most+1)=true:=by
   cases e:tameB x.mo (most+1) with
   |true=>rfl
   |false=>exact absurd (.inl ⟨e,hl⟩) h2
  obtain⟨tb,tl⟩:=qb_ ht hx.2.2.2.2.2.1
  exact⟨bdL_mono' tb (by decide),tl⟩
section
variable (m:List Rat)(l r:Bool)(a b:Rat)(ha:sm a)(hb:sm b)(hv:okW m l r a b)(hmb:bdL m 3000)(hl:m.length≤16)(n:Int)
include ha hb hv hmb hl
theorem or_def(h6:n≤6∨25< n):∃dv:Bool,∃de:Int,FSpec Tryz.prog 67 [.agg (wC m l r (qC a) (qC b)),i64 n] (.tup [bln dv,i64 de])∧((n< 0∧de=3∧dv=false)∨(0≤n∧(m.length:Int)< 2* n+1∧de=5∧dv=false)∨(0≤n∧n≤6∧2* n+1≤(m.length:Int)∧de=0∧(dv=true↔∀j:Nat,(j:Int)≤n→0< oN m j))):=by
 have h1:=hv.1
 by_cases hn:n< 0
 exact⟨false,3,l9_ m l r a b ha hb n hv hn,.inl ⟨hn,rfl,rfl⟩⟩
 by_cases hlm:(m.length:Int)< 2* n+1
 exact⟨false,5,ma_ m l r a b ha hb n hv (by omega),.inr (.inl ⟨by omega,hlm,rfl,rfl⟩)⟩
 obtain⟨N,rfl⟩:∃N:Nat,n=(N:Int):=⟨n.toNat,by omega⟩
 obtain⟨d,d1,d2,d3⟩:=leastN (P:=fun k=>k=N∨¬0< oN m k) N (.inl rfl)
 have hp:∀j,j< d→0< oN m j:=fun j hj=>Classical.not_not.1 fun e=>d3 j hj (.inr e)
 obtain⟨o1,o2,o3,o4,o5⟩:=iy_ hmb (by decide) (by decide) hl (show d≤6 by omega) hp d (Nat.le_refl _)
 refine⟨_,0,nl_ m l r a b N d hv ha hb (by omega) (by omega) d1 (fun k hk=>q3_ hmb (by decide) (by decide) hl (show d≤6 by omega) hp (by omega) k hk) ⟨o1,o4 (by omega)⟩ (fun h=>d2.resolve_left (by omega)),.inr (.inr ⟨by omega,by omega,by omega,rfl,?_⟩)⟩
 constructor
 intro e j hj
 have e:=of_decide_eq_true e
 have hdn:d=N:=by
  rcases d2 with h|h
  exact h
  exact absurd e h
 by_cases hj2:j=d
 rw[hj2];exact e
 exact hp j (by omega)
 intro h
 exact decide_eq_true (h d (by omega))
theorem or_lad(h6:n≤6∨25< n):∃P A B:List Rat,∃e:Int,FSpec Tryz.prog 68 [.agg (wC m l r (qC a) (qC b)),i64 n] (.tup [.arr (pE P),i64 e])∧FSpec Tryz.prog 69 [.agg (wC m l r (qC a) (qC b)),i64 n] (.tup [.arr (pE A),.arr (pE B),i64 e])∧(e≠0→P=[]∧A=[]∧B=[])∧
    (((n< 0∨25< n)∧e=3)∨(0≤n∧n≤6∧(m.length:Int)< 2* n∧e=5)∨(0≤n∧n≤6∧2* n≤(m.length:Int)∧e=14∧¬ ∀j:Nat,(j:Int)≤n- 1→0< oN m j)∨
     (0≤n∧n≤6∧2* n≤(m.length:Int)∧e=0∧(∀j:Nat,(j:Int)≤n- 1→0< oN m j)∧P=oP m n.toNat∧A=sqL (ldAk m) n.toNat∧B=sqL (ldB m) n.toNat)):=by
 by_cases hr:n< 0∨25< n
 have h:=px_ m l r a b ha hb n hv hr
 exact⟨[],[],[],3,h4_ m l r a b n 3 (by decide) h,kQ_ m l r a b n 3 (by decide) h,fun _=>⟨rfl,rfl,rfl⟩,.inl ⟨hr,rfl⟩⟩
 obtain⟨N,rfl⟩:∃N:Nat,n=(N:Int):=⟨n.toNat,by omega⟩
 by_cases hlm:m.length< 2* N
 have h:=py_ m l r a b ha hb N hv (by omega) hlm
 exact⟨[],[],[],5,h4_ m l r a b N 5 (by decide) h,kQ_ m l r a b N 5 (by decide) h,fun _=>⟨rfl,rfl,rfl⟩,.inr (.inl ⟨by omega,by omega,by omega,rfl⟩)⟩
 obtain⟨d,d1,d2,d3⟩:=leastN (P:=fun k=>k=N∨¬0< oN m k) N (.inl rfl)
 have hp:∀j,j< d→0< oN m j:=fun j hj=>Classical.not_not.1 fun e=>d3 j hj (.inr e)
 obtain⟨o1,o2,o3,o4,o5⟩:=iy_ hmb (by decide) (by decide) hl (show d≤6 by omega) hp d (Nat.le_refl _)
 have h:=pz_ m l r a b ha hb N d hv (by omega) (by omega) d1 (fun k hk=>q3_ hmb (by decide) (by decide) hl (show d≤6 by omega) hp (by omega) k hk) (fun h=>⟨o1,o4 (by omega),d2.resolve_left (by omega)⟩)
 by_cases hdn:d=N
 subst hdn
 rw[if_pos rfl] at h
 exact⟨oP m d,sqL (ldAk m) d,sqL (ldB m) d,0,fs_OrthO m l r a b d h,fs_RecO m l r a b d h,fun e=>absurd rfl e,.inr (.inr (.inr ⟨by omega,by omega,by omega,rfl,fun j hj=>hp j (by omega),rfl,rfl,rfl⟩))⟩
 rw[if_neg hdn] at h
 exact⟨[],[],[],14,h4_ m l r a b N 14 (by decide) h,kQ_ m l r a b N 14 (by decide) h,fun _=>⟨rfl,rfl,rfl⟩,.inr (.inr (.inl ⟨by omega,by omega,by omega,rfl,fun H=>(d2.resolve_left hdn) (H d (by omega))⟩))⟩
end
theorem oP_trim(m:List Rat)(n:Nat):trimQ (oP m n)=oP m n:=by
 obtain⟨o1,o2⟩:=(ix_ m n).1
 have o3:=(dV_ m n).1
 have o4:=go_ (p:=oP m n) (n:=n) ⟨by rw[o1];decide,o2⟩
 have o5:(trimQ (oP m n)).length=n+1:=by
  have h3:=o4.2.1
  have h4:=List.length_pos_iff.2 o4.1
  unfold dg at h3;omega
 have h3:=eV_ (oP m n)
 rw[List.take_of_length_le (by rw[o5];exact o3)] at h3
 exact h3
theorem ez_{f:Nat→Rat}{n k:Nat}(h:k< n):∀e,e=k→(pE (sqL f n))[e]?=some (qC (f k)):=fun e he=>by
 rw[he]
 refine bD_ ?_
 unfold sqL;simp[h]
theorem hq_(x:LoR)(n:Int)(hx:okLo x)(hxm:x.mo.length≤9223372036854775807)(hn:i64r n):FSpec Tryz.prog 9 [.agg (loC x),i64 n] (.v (.bool true)):=by
 have cX:=hv_ x
 have hld:=fs_Loads x 14 hx (by decide) hxm
 have lok:=ldW_ok x hx 14
 have ltm:=q1_ x 14 (by decide) hx
 unfold i64r at hn
 refine f_n Tryz.func9 ?_ ?_
 exact aa_ (aq_ cX) (aa_ (ad_ _) ab_)
 refine r_z 2 ?_
 cases hw:ldW x 14 with
 |none=>
  rw[hw] at hld
  refine r_c 11 (hld) ?_
  refine a_z ?_
  refine ac_ (s_r 10 ?_)
  refine o_0 (.move rfl) ?_
  refine o_0 (.un rfl jw_) ?_
  refine o_0 (.move rfl) ?_
  first|refine ay_ rfl rfl rfl (.move rfl) rfl rfl ?_|refine br_ rfl rfl (by first|(simp[bh_];done)|exact nofun) rfl rfl ?_
  first|refine ay_ rfl rfl rfl (.bin rfl rfl dG_) rfl rfl ?_|refine br_ rfl rfl (by first|(simp[bh_];done)|exact nofun) rfl rfl ?_
  first|refine ay_ rfl rfl rfl (.move rfl) rfl rfl ?_|refine br_ rfl rfl (by first|(simp[bh_];done)|exact nofun) rfl rfl ?_
  first|refine ay_ rfl rfl rfl (.move rfl) rfl rfl ?_|refine br_ rfl rfl (by first|(simp[bh_];done)|exact nofun) rfl rfl ?_
  first|refine ay_ rfl rfl rfl (.bin rfl rfl cW_) rfl rfl ?_|refine br_ rfl rfl (by first|(simp[bh_];done)|exact nofun) rfl rfl ?_
  first|refine ay_ rfl rfl rfl (.pick rfl (fun _=>rfl) (fun _=>rfl)) rfl rfl ?_|refine ay_ rfl rfl rfl (.pick rfl (fun _=>rfl) (fun h=>absurd h (by decide))) rfl rfl ?_|refine ay_ rfl rfl rfl (.pick rfl (fun h=>absurd h (by decide)) (fun _=>rfl)) rfl rfl ?_|refine br_ rfl rfl (by first|(simp[bh_];done)|exact nofun) rfl rfl ?_
  first|refine aw_ (.pick rfl (fun _=>rfl) (fun _=>rfl)) rfl rfl ?_|refine aw_ (.pick rfl (fun _=>rfl) (fun h=>absurd h (by decide))) rfl rfl ?_|refine aw_ (.pick rfl (fun h=>absurd h (by decide)) (fun _=>rfl)) rfl rfl ?_
  refine an_ ?_
  refine cT (r_c 2 (fc_) ?_)
  refine a_z ?_
  exact aj_ (t_e (ad_ _))
 |some w=>
 rw[hw] at hld
 have ok:=lok w hw
 have tm:=ltm w hw
 simp only[Option.getD_some,Option.isSome_some] at hld
 refine r_c 11 (hld) ?_
 refine a_z ?_
 have cA:∀c∈w.A,Closed c:=w.cA
 have cB:∀c∈w.B,Closed c:=a0_
 refine AWp.ent (st':=⟨[(1,i64 n),(5,.aptr [w.A] 0 0),(6,.aptr [w.B] 0 0),(7,bln true)],[],1,242⟩) ?_ ?_
 refine ar_ [] rfl rfl rfl au_r (fun hs=>?_) (fun hs=>?_)
 ·repeat' (first|exact aA_|refine au_ rfl ?_ ?_)
  all_goals (first|((first|exact Cv.boxp hs rfl (aM_ rfl) rfl cA|exact Cv.boxp hs rfl (aM_ rfl) rfl cB))|exact au_c)
 ·repeat' (first|exact ap_|refine al_ rfl rfl rfl rfl ?_ ?_)
  all_goals (first|exact au_e|(refine ae_ ?_;repeat' (first|exact ao_|refine af_ ?_ ?_)))
  all_goals (first|((first|exact Cv.boxp hs rfl (aM_ rfl) rfl cA|exact Cv.boxp hs rfl (aM_ rfl) rfl cB))|exact au_c)
 by_cases hmid:6< n∧n≤25
 refine ac_ (s_r 10 ?_)
 refine d_4 ?_
 refine ay_ rfl rfl rfl (.bin rfl rfl (vT dG_ (decide_eq_true hmid.1))) rfl rfl ?_
 refine d_2 ?_
 refine ay_ rfl rfl rfl (.bin rfl rfl (vT cW_ (decide_eq_true hmid.2))) rfl rfl ?_
 refine a_z ?_
 refine cT (r_c 2 (fc_) ?_)
 refine a_z ?_
 exact aj_ (t_e (ad_ _))
 have h6:n≤6∨25< n:=by omega
 refine aU_ (fun _:Unit=>⟨[(1,i64 n),(5,.aptr [w.A] 0 0),(6,.aptr [w.B] 0 0)],[],1,242⟩) (fun _=>True) ?_ ?_
 by_cases h:6< n
 refine q_z 10 ?_
 refine cF (ah_ ⟨(),trivial,?_⟩)
 refine ar_ [] rfl rfl rfl au_r (fun hs=>?_) (fun hs=>?_)
 ·repeat' (first|exact aA_|refine au_ rfl ?_ ?_)
  all_goals (first|((first|exact ak_ hs (ai_ cA)|exact ak_ hs (ai_ cB)))|exact au_c)
 ·repeat' (first|exact ap_|refine al_ rfl rfl rfl rfl ?_ ?_)
  all_goals (first|exact au_e|(refine ae_ ?_;repeat' (first|exact ao_|refine af_ ?_ ?_)))
  all_goals (first|((first|exact ak_ hs (ai_ cA)|exact ak_ hs (ai_ cB)))|exact au_c)
 refine q_z 10 ?_
 refine cF (ah_ ⟨(),trivial,?_⟩)
 refine ar_ [] rfl rfl rfl au_r (fun hs=>?_) (fun hs=>?_)
 ·repeat' (first|exact aA_|refine au_ rfl ?_ ?_)
  all_goals (first|((first|exact ak_ hs (ai_ cA)|exact ak_ hs (ai_ cB)))|exact au_c)
 ·repeat' (first|exact ap_|refine al_ rfl rfl rfl rfl ?_ ?_)
  all_goals (first|exact au_e|(refine ae_ ?_;repeat' (first|exact ao_|refine af_ ?_ ?_)))
  all_goals (first|((first|exact ak_ hs (ai_ cA)|exact ak_ hs (ai_ cB)))|exact au_c)
 rintro _ _
 have hvl:=rs_ w.m w.l w.r w.x w.y (by have:=ok.len;omega) ok.ox ok.oy (by have:=ok.qa;have:=ok.qb;rw[ok.ex,ok.ey];omega)
 rw[ok.ex,ok.ey] at hvl
 have sa:sm w.a:=Nat.le_trans ok.qa (by decide)
 have sb:sm w.b:=Nat.le_trans ok.qb (by decide)
 have okl:=ok.len
 obtain⟨m,l,r,a,b,X,Y⟩:=w
 simp only at *
 show AWp _ _ _ _ ⟨[(1,i64 n),(5,.aptr [wC m l r (qC a) (qC b)] 0 0),(6,.aptr [rwC m l r X Y] 0 0)],[],1,242⟩
 by_cases hok:okW m l r a b
 rotate_left
 rw[decide_eq_false hok] at hvl
 have hla:=pw_ m l r a b sa sb n hok (by omega)
 have hdf:=l8_ m l r a b sa sb n hok (by omega)
 have hO:=h4_ m l r a b n 2 (by decide) hla
 have hR:=kQ_ m l r a b n 2 (by decide) hla
 refine r_c 8 (hdf) ?_
 refine a_z ?_
 refine r_c 8 (hO) ?_
 refine a_z ?_
 refine r_c 10 (hR) ?_
 refine a_z ?_
 refine ac_ (r_c 3 (hvl) ?_)
 refine a_z ?_
 refine cT (s_r 29 ?_)
 refine a_1 ?_
 refine o_0 (.bin rfl rfl (vT a9_ (rfl))) ?_
 refine d_2 ?_
 refine ay_ rfl rfl rfl (.bin rfl rfl (vT a9_ (rfl))) rfl rfl ?_
 refine d_3 ?_
 refine ay_ rfl rfl rfl (.bin rfl rfl (vT a9_ (rfl))) rfl rfl ?_
 refine d_8 ?_
 refine d_2 ?_
 refine ay_ rfl rfl rfl (.bin rfl rfl (gQ_ (by simp))) rfl rfl ?_
 refine d_2 ?_
 refine ay_ rfl rfl rfl (.bin rfl rfl (gQ_ (by simp))) rfl rfl ?_
 refine ay_ rfl rfl rfl (.bin rfl rfl (vT a9_ (rfl))) rfl rfl ?_
 refine c_s (fc_) ?_
 refine a_z ?_
 exact aj_ (t_e (ad_ _))
 rw[decide_eq_true hok] at hvl
 obtain⟨mb,ml⟩:=tm hok
 obtain⟨dv,de,hdf,dfa⟩:=or_def m l r a b sa sb hok mb (by omega) n h6
 obtain⟨P,A,B,e,hO,hR,lz,lfa⟩:=or_lad m l r a b sa sb hok mb (by omega) n h6
 refine r_c 8 (hdf) ?_
 refine a_z ?_
 refine r_c 8 (hO) ?_
 refine a_z ?_
 refine r_c 10 (hR) ?_
 refine a_z ?_
 refine ac_ (r_c 3 (hvl) ?_)
 refine a_z ?_
 refine cF (ah_ ?_)
 have hml:(rP m).length=m.length:=by simp[rP]
 have hm1:=hok.1
 refine r_z 4 ?_
 refine aU_ (fun _:Unit=>⟨[(1,i64 n),(6,.aptr [rwC m l r X Y] 0 0),(10,.arr (pE P)),(11,i64 e),(12,.arr (pE A)),(13,.arr (pE B)),(14,i64 e),(15,i64 m.length)],[],1,242⟩) (fun _=>True) ?_ ?_
 rcases dfa with⟨c1,rfl,rfl⟩|⟨c1,c2,rfl,rfl⟩|⟨c1,c2,c3,rfl,c4⟩
 refine q_z 2 ?_
 refine cT (s_r 5 ?_)
 refine a_1 ?_
 refine o_0 (.bin rfl rfl (vF ba_ (rfl))) ?_
 refine a_z ?_
 refine cF (ah_ ⟨(),trivial,?_⟩)
 refine ar_ [] rfl rfl rfl au_r (fun hs=>?_) (fun hs=>?_)
 ·repeat' (first|exact aA_|refine au_ rfl ?_ ?_)
  all_goals (first|((first|exact ak_ hs (ai_ cB)))|exact au_c)
 ·repeat' (first|exact ap_|refine al_ rfl rfl rfl rfl ?_ ?_)
  all_goals (first|exact au_e|(refine ae_ ?_;repeat' (first|exact ao_|refine af_ ?_ ?_)))
  all_goals (first|((first|exact ak_ hs (ai_ cB)))|exact au_c)
 by_cases h25:25< n
 refine q_z 2 ?_
 refine cF (q_z 9 ?_)
 refine cT (s_r 5 ?_)
 refine a_1 ?_
 refine o_0 (.bin rfl rfl (vF ba_ (rfl))) ?_
 refine a_z ?_
 refine cF (ah_ ⟨(),trivial,?_⟩)
 refine ar_ [] rfl rfl rfl au_r (fun hs=>?_) (fun hs=>?_)
 ·repeat' (first|exact aA_|refine au_ rfl ?_ ?_)
  all_goals (first|((first|exact ak_ hs (ai_ cB)))|exact au_c)
 ·repeat' (first|exact ap_|refine al_ rfl rfl rfl rfl ?_ ?_)
  all_goals (first|exact au_e|(refine ae_ ?_;repeat' (first|exact ao_|refine af_ ?_ ?_)))
  all_goals (first|((first|exact ak_ hs (ai_ cB)))|exact au_c)
 refine q_z 2 ?_
 refine cF (q_z 9 ?_)
 refine cT (s_r 5 ?_)
 refine a_1 ?_
 refine o_0 (.bin rfl rfl (vF ba_ (rfl))) ?_
 refine a_z ?_
 refine cF (ah_ ⟨(),trivial,?_⟩)
 refine ar_ [] rfl rfl rfl au_r (fun hs=>?_) (fun hs=>?_)
 ·repeat' (first|exact aA_|refine au_ rfl ?_ ?_)
  all_goals (first|((first|exact ak_ hs (ai_ cB)))|exact au_c)
 ·repeat' (first|exact ap_|refine al_ rfl rfl rfl rfl ?_ ?_)
  all_goals (first|exact au_e|(refine ae_ ?_;repeat' (first|exact ao_|refine af_ ?_ ?_)))
  all_goals (first|((first|exact ak_ hs (ai_ cB)))|exact au_c)
 obtain⟨bb,hrd,hrb⟩:=fd_ m l r X Y n ⟨by omega,c2⟩ c3 (by omega) mb
 have hbb:dv=bb:=by
  cases dv <;> cases bb
  rfl
  exact absurd (c4.2 (hrb.1 rfl)) (by decide)
  exact absurd (hrb.2 (c4.1 rfl)) (by decide)
  rfl
 subst hbb
 refine q_z 2 ?_
 refine cF (q_z 9 ?_)
 refine cF (s_r 9 ?_)
 refine a_1 ?_
 refine o_0 (.bin rfl rfl (vF ba_ (rfl))) ?_
 refine c_s (hrd) ?_
 refine ay_ rfl rfl rfl (.bin rfl rfl (vF (o5_ tu_4.h) (bne_self_eq_false dv))) rfl rfl ?_
 refine a_z ?_
 refine cF (ah_ ⟨(),trivial,?_⟩)
 refine ar_ [] rfl rfl rfl au_r (fun hs=>?_) (fun hs=>?_)
 ·repeat' (first|exact aA_|refine au_ rfl ?_ ?_)
  all_goals (first|((first|exact ak_ hs (ai_ cB)))|exact au_c)
 ·repeat' (first|exact ap_|refine al_ rfl rfl rfl rfl ?_ ?_)
  all_goals (first|exact au_e|(refine ae_ ?_;repeat' (first|exact ao_|refine af_ ?_ ?_)))
  all_goals (first|((first|exact ak_ hs (ai_ cB)))|exact au_c)
 rintro _ _
 refine r_z 1 ?_
 refine aU_ (fun _:Unit=>⟨[(1,i64 n),(6,.aptr [rwC m l r X Y] 0 0),(10,.arr (pE P)),(11,i64 e),(12,.arr (pE A)),(13,.arr (pE B)),(14,i64 e),(16,i64 e)],[],1,242⟩) (fun _=>True) ?_ ?_
 rcases lfa with⟨c1,rfl⟩|⟨c1,c2,c3,rfl⟩|⟨c1,c2,c3,rfl,c4⟩|⟨c1,c2,c3,rfl,c4,_⟩
 by_cases h0:n< 0
 refine q_z 6 ?_
 refine cT (r_m 1 ?_)
 refine a_z ?_
 refine⟨(),trivial,?_⟩
 refine ar_ [] rfl rfl rfl au_r (fun hs=>?_) (fun hs=>?_)
 ·repeat' (first|exact aA_|refine au_ rfl ?_ ?_)
  all_goals (first|((first|exact ak_ hs (ai_ cB)))|exact au_c)
 ·repeat' (first|exact ap_|refine al_ rfl rfl rfl rfl ?_ ?_)
  all_goals (first|exact au_e|(refine ae_ ?_;repeat' (first|exact ao_|refine af_ ?_ ?_)))
  all_goals (first|((first|exact ak_ hs (ai_ cB)))|exact au_c)
 refine q_z 6 ?_
 refine cT (r_m 1 ?_)
 refine a_z ?_
 refine⟨(),trivial,?_⟩
 refine ar_ [] rfl rfl rfl au_r (fun hs=>?_) (fun hs=>?_)
 ·repeat' (first|exact aA_|refine au_ rfl ?_ ?_)
  all_goals (first|((first|exact ak_ hs (ai_ cB)))|exact au_c)
 ·repeat' (first|exact ap_|refine al_ rfl rfl rfl rfl ?_ ?_)
  all_goals (first|exact au_e|(refine ae_ ?_;repeat' (first|exact ao_|refine af_ ?_ ?_)))
  all_goals (first|((first|exact ak_ hs (ai_ cB)))|exact au_c)
 refine q_z 6 ?_
 refine cF (q_z 4 ?_)
 refine cT (r_m 1 ?_)
 refine a_z ?_
 refine⟨(),trivial,?_⟩
 refine ar_ [] rfl rfl rfl au_r (fun hs=>?_) (fun hs=>?_)
 ·repeat' (first|exact aA_|refine au_ rfl ?_ ?_)
  all_goals (first|((first|exact ak_ hs (ai_ cB)))|exact au_c)
 ·repeat' (first|exact ap_|refine al_ rfl rfl rfl rfl ?_ ?_)
  all_goals (first|exact au_e|(refine ae_ ?_;repeat' (first|exact ao_|refine af_ ?_ ?_)))
  all_goals (first|((first|exact ak_ hs (ai_ cB)))|exact au_c)
 obtain⟨bb,hrd,hrb⟩:=fd_ m l r X Y (n- 1) ⟨by omega,by omega⟩ (by omega) (by omega) mb
 have hbb:bb=false:=by
  cases hh:bb with
  |false=>rfl
  |true=>exact absurd (hrb.1 hh) c4
 subst hbb
 refine q_z 6 ?_
 refine cF (q_z 4 ?_)
 refine cF (r_c 5 (hrd) ?_)
 refine a_z ?_
 refine cT (r_m 1 ?_)
 refine a_z ?_
 refine⟨(),trivial,?_⟩
 refine ar_ [] rfl rfl rfl au_r (fun hs=>?_) (fun hs=>?_)
 ·repeat' (first|exact aA_|refine au_ rfl ?_ ?_)
  all_goals (first|((first|exact ak_ hs (ai_ cB)))|exact au_c)
 ·repeat' (first|exact ap_|refine al_ rfl rfl rfl rfl ?_ ?_)
  all_goals (first|exact au_e|(refine ae_ ?_;repeat' (first|exact ao_|refine af_ ?_ ?_)))
  all_goals (first|((first|exact ak_ hs (ai_ cB)))|exact au_c)
 obtain⟨bb,hrd,hrb⟩:=fd_ m l r X Y (n- 1) ⟨by omega,by omega⟩ (by omega) (by omega) mb
 have hbb:bb=true:=hrb.2 c4
 subst hbb
 refine q_z 6 ?_
 refine cF (q_z 4 ?_)
 refine cF (r_c 5 (hrd) ?_)
 refine a_z ?_
 refine cF (ah_ ⟨(),trivial,?_⟩)
 refine ar_ [] rfl rfl rfl au_r (fun hs=>?_) (fun hs=>?_)
 ·repeat' (first|exact aA_|refine au_ rfl ?_ ?_)
  all_goals (first|((first|exact ak_ hs (ai_ cB)))|exact au_c)
 ·repeat' (first|exact ap_|refine al_ rfl rfl rfl rfl ?_ ?_)
  all_goals (first|exact au_e|(refine ae_ ?_;repeat' (first|exact ao_|refine af_ ?_ ?_)))
  all_goals (first|((first|exact ak_ hs (ai_ cB)))|exact au_c)
 rintro _ _
 by_cases he:e=0
 rotate_left
 obtain⟨rfl,rfl,rfl⟩:=lz he
 refine ac_ (s_r 2 ?_)
 refine a_1 ?_
 refine o_0 (.bin rfl rfl (vT ba_ (bne_iff_ne.2 he))) ?_
 refine an_ ?_
 refine cT (s_r 23 ?_)
 refine a_2 ?_
 refine o_0 (.bin rfl rfl (vT a9_ (beq_self_eq_true e))) ?_
 refine d_3 ?_
 refine ay_ rfl rfl rfl (.bin rfl rfl (vT a9_ (beq_self_eq_true e))) rfl rfl ?_
 refine d_6 ?_
 refine ay_ rfl rfl rfl (.bin rfl rfl (gQ_ (by simp))) rfl rfl ?_
 refine d_2 ?_
 refine ay_ rfl rfl rfl (.bin rfl rfl (gQ_ (by simp))) rfl rfl ?_
 refine ay_ rfl rfl rfl (.bin rfl rfl (vT a9_ (rfl))) rfl rfl ?_
 refine c_s (fc_) ?_
 refine a_z ?_
 exact aj_ (t_e (ad_ _))
 obtain⟨c1,c2,c3,c4,pp,aa,bb⟩:0≤n∧n≤6∧2* n≤(m.length:Int)∧(∀j:Nat,(j:Int)≤n- 1→0< oN m j)∧P=oP m n.toNat∧A=sqL (ldAk m) n.toNat∧B=sqL (ldB m) n.toNat:=by
  rcases lfa with⟨_,h⟩|⟨_,_,_,h⟩|⟨_,_,_,h,_⟩|⟨h1,h2,h3,_,h4,h5,h7,h8⟩
  omega
  omega
  omega
  exact⟨h1,h2,h3,h4,h5,h7,h8⟩
 subst he
 obtain⟨N,rfl⟩:∃N:Nat,n=(N:Int):=⟨n.toNat,by omega⟩
 rw[Int.toNat_natCast] at pp aa bb
 subst pp aa bb
 have hpos:∀j,j< N→0< oN m j:=fun j hj=>c4 j (by omega)
 have hlad:=fun k hk=>q3_ mb (by decide) (by decide) (show m.length≤16 by omega) (show N≤6 by omega) hpos (by omega) k hk
 have hbd:=fun k hk=>lM_ mb (by decide) (by decide) (show m.length≤16 by omega) (show N≤6 by omega) hpos k hk
 have hsame:∀k,k≤N→FSpec Tryz.prog 72 [.arr (pE (oP m k)),.arr (rE (rP (oP m k)))] (bln true):=fun k hk=>
  fs_SameP (oP m k) (rP (oP m k)) (d4_ _) (by rw[vR_rP];exact oP_trim m k) (bdL_mono' (hbd k hk).1 (by decide)) (by have h:(oP m k).length≤k+1:=(dV_ m k).1;rw[cF_];omega)
 have hor:∀k,k≤N→FSpec Tryz.prog 71 [.agg (rwC m l r X Y),i64 k] (.tup [.arr (rE (rP (oP m k))),bln true]):=fun k hk=>by
  obtain⟨q,okk,h1,h2⟩:=ot_ m l r X Y k 3000 (by omega) (by omega) (by omega) mb (by decide) (lT_ (by omega))
  obtain⟨rfl,rfl⟩:=h2 fun j hj=>hpos j (by omega)
  exact h1
 have hAl:(sqL (ldAk m) N).length=N:=by simp
 have hBl:(sqL (ldB m) N).length=N:=by simp
 have hI:=dz_ 1 (by decide)
 have hO2:=hor N (Nat.le_refl _)
 have hS2:=hsame N (Nat.le_refl _)
 refine ac_ (s_r 2 ?_)
 refine a_1 ?_
 refine o_0 (.bin rfl rfl (vF ba_ (rfl))) ?_
 refine an_ ?_
 refine cF (ah_ (r_c 8 (hO2) ?_))
 refine a_z ?_
 refine ac_ (s_r 24 ?_)
 refine a_1 ?_
 refine o_0 (.bin rfl rfl (vF ba_ (rfl))) ?_
 refine d_2 ?_
 refine ay_ rfl rfl rfl (.bin rfl rfl (vF ba_ (rfl))) rfl rfl ?_
 refine c_s (hS2) ?_
 refine d_6 ?_
 refine ay_ rfl rfl rfl (.bin rfl rfl (vF ba_ (bne_eq_false_iff_eq.2 (by omega)))) rfl rfl ?_
 refine d_5 ?_
 refine ay_ rfl rfl rfl (.bin rfl rfl (vF ba_ (bne_eq_false_iff_eq.2 (by omega)))) rfl rfl ?_
 refine a_z ?_
 refine cF (ah_ (r_c 4 (hI) ?_))
 refine a_z ?_
 refine ac_ (r_z 1 ?_)
 refine aB_ (fun _:Unit=>⟨[],[],1,242⟩) (fun _=>True) ?_ ?_
 ·refine ag_ (ax_ (fun k:Nat=>⟨[(1,i64 N),(6,.aptr [rwC m l r X Y] 0 0),(12,.arr (pE (sqL (ldAk m) N))),(13,.arr (pE (sqL (ldB m) N))),(19,.arr (pE (oL m k))),(20,.arr (pE (oP m k))),(21,i64 k)],[],1,242⟩) (fun k=>N- k) (fun k=>k≤N) 0 (Nat.zero_le _) ?_ ?_)
  refine ar_ [] rfl rfl rfl au_r (fun hs=>?_) (fun hs=>?_)
  ·repeat' (first|exact aA_|refine au_ rfl ?_ ?_)
   all_goals (first|((first|exact ak_ hs (ai_ cB)|exact db_ (L:=[1]) hs rfl (aM_ rfl) rfl rfl|exact Cv.emp _))|exact au_c)
  ·repeat' (first|exact ap_|refine al_ rfl rfl rfl rfl ?_ ?_)
   all_goals (first|exact au_e|(refine ae_ ?_;repeat' (first|exact ao_|refine af_ ?_ ?_)))
   all_goals (first|((first|exact ak_ hs (ai_ cB)|exact db_ (L:=[1]) hs rfl (aM_ rfl) rfl rfl|exact Cv.emp _))|exact au_c)
  intro k hk
  by_cases hkn:k< N
  rotate_left
  refine ac_ (q_z 3 ?_)
  refine cF (av_ ⟨(),trivial,?_⟩)
  exact s_e []
  obtain⟨o1,o2,o3,o4,o5,o6,o7,o8,o9,o10,o11,o12,o13,o14,o15⟩:=hlad k hkn
  have hng:=gx_ (ldAk m k)
  have hmp:=dw_ (oP m k) [-ldAk m k,1] o8
  have hsc:=dE_ (oL m k) (ldB m k) o9 o10 o13
  have hsu:FSpec Tryz.prog 73 [.arr (pE (mulP (oP m k) [-ldAk m k,1])),.arr (pE (aJ_ (oL m k) (ldB m k)))] (.arr (pE (oP m (k+1)))):=oA_ _ _ o11 o12 o14 o15
  have hO3:=hor (k+1) hkn
  have hS3:=hsame (k+1) hkn
  refine ac_ (q_z 3 ?_)
  refine cT (ah_ (ac_ (ag_ (ac_ (r_d hmix 17 ?_)))))
  refine a_3 ?_
  first|refine aw_ (.index_l rfl rfl (by omega) (by omega) te_49.h) rfl rfl ?_|refine aw_ (.index_a rfl rfl (by omega) (ez_ hkn _ (by omega)) rfl te_49.h) rfl rfl ?_
  first|refine aw_ (.load_l rfl rfl (ez_ hkn _ (by omega)) tg_35.h ts_35.h (nle rfl)) rfl rfl ?_|refine aw_ (.load_a rfl (ez_ hkn _ (by omega)) tg_35.h ts_35.h (nle rfl)) rfl rfl ?_
  refine c_s (hng) ?_
  refine c_s (hI) ?_
  refine a_1 ?_
  refine o_1 (.callS1 rfl rfl rfl (.keep (.shut rfl d_n (.nil))) rfl (hmp)) ?_
  refine a_3 ?_
  first|refine aw_ (.index_l rfl rfl (by omega) (by omega) te_49.h) rfl rfl ?_|refine aw_ (.index_a rfl rfl (by omega) (ez_ hkn _ (by omega)) rfl te_49.h) rfl rfl ?_
  first|refine aw_ (.load_l rfl rfl (ez_ hkn _ (by omega)) tg_35.h ts_35.h (nle rfl)) rfl rfl ?_|refine aw_ (.load_a rfl (ez_ hkn _ (by omega)) tg_35.h ts_35.h (nle rfl)) rfl rfl ?_
  refine c_s (hsc) ?_
  refine c_s (hsu) ?_
  refine a_1 ?_
  refine an_ (n_k ?_)
  refine r_c 9 (hO3) ?_
  refine a_z ?_
  by_cases hk0:k=0
  subst hk0
  have hs0:=bI_ (ldB m 0)
  rw[show sgZ (ldB m 0).num=0 from rfl] at hs0
  refine ac_ (r_c 15 (hS3) ?_)
  refine d_3 ?_
  refine ay_ rfl rfl rfl (.bin rfl rfl (vT a9_ (rfl))) rfl rfl ?_
  refine d_2 ?_
  first|refine ay_ rfl rfl rfl (.index_l rfl rfl (by omega) (by omega) te_49.h) rfl rfl ?_|refine ay_ rfl rfl rfl (.index_a rfl rfl (by omega) (ez_ hkn _ (by omega)) rfl te_49.h) rfl rfl ?_
  first|refine ay_ rfl rfl rfl (.load_l rfl rfl (ez_ hkn _ (by omega)) tg_35.h ts_35.h (nle rfl)) rfl rfl ?_|refine ay_ rfl rfl rfl (.load_a rfl (ez_ hkn _ (by omega)) tg_35.h ts_35.h (nle rfl)) rfl rfl ?_
  refine c_s (hs0) ?_
  refine ay_ rfl rfl rfl (.bin rfl rfl (vF ba_ (rfl))) rfl rfl ?_
  refine a_z ?_
  refine cF (ah_ (r_m 4 ?_))
  refine a_z ?_
  refine r_m 3 ?_
  refine a_z ?_
  refine⟨1,by omega,hkn,?_⟩
  refine ar_ [] rfl rfl rfl au_r (fun hs=>?_) (fun hs=>?_)
  ·repeat' (first|exact aA_|refine au_ rfl ?_ ?_)
   all_goals (first|((first|exact ak_ hs (ai_ cB)))|exact au_c)
  ·repeat' (first|exact ap_|refine al_ rfl rfl rfl rfl ?_ ?_)
   all_goals (first|exact au_e|(refine ae_ ?_;repeat' (first|exact ao_|refine af_ ?_ ?_)))
   all_goals (first|((first|exact ak_ hs (ai_ cB)))|exact au_c)
  refine ac_ (r_c 15 (hS3) ?_)
  refine d_3 ?_
  refine ay_ rfl rfl rfl (.bin rfl rfl (vF a9_ (beq_false_of_ne (by omega)))) rfl rfl ?_
  refine a_z ?_
  refine cF (ah_ (r_m 4 ?_))
  refine a_z ?_
  refine r_m 3 ?_
  refine a_z ?_
  refine⟨k+1,by omega,hkn,?_⟩
  refine ar_ [] rfl rfl rfl au_r (fun hs=>?_) (fun hs=>?_)
  ·repeat' (first|exact aA_|refine au_ rfl ?_ ?_)
   all_goals (first|((first|exact ak_ hs (ai_ cB)))|exact au_c)
  ·repeat' (first|exact ap_|refine al_ rfl rfl rfl rfl ?_ ?_)
   all_goals (first|exact au_e|(refine ae_ ?_;repeat' (first|exact ao_|refine af_ ?_ ?_)))
   all_goals (first|((first|exact ak_ hs (ai_ cB)))|exact au_c)
 rintro _ _
 refine r_c 2 (fc_) ?_
 refine a_z ?_
 exact aj_ (t_e (ad_ _))
end Go.Proofs.YtdjfjpeoddmamaaGreatDoor
namespace Go.Proofs.YtdjfjpeoddmamaaGreatDoor
open Go
def mkF(P:Program)(fn:Func)(c:OpenClaim):Bool:=(P.make==some c.make) && (c.kinds==(if c.domain.isEmpty then [] else fn.params.toList.map fun t=>match P.underlying t with|some (.int k)=>some k|_=>none)) && (c.pinned==c.pinnedBy)
section
variable {P:Program}{f:FuncId}{fn:Func}{s:ChangeSpec}{c:OpenClaim}
theorem q6_ (h1:c.wf (OpenSpec.ofChange s)=true) (h2:laidOutB P=true) (h3:mapsRowed P=true)
    (h4:fn.params.all (P.readableRec ·)=true) (h5:namedTie P c.named s.vars=true)
    (h6:((c.stops==[]) && (P.stops==[]) && (c.knobs==[]) && (P.stopKnobs==[]))=true)
    (h7:(c.inPlace==P.inPlace f)=true) (h8:(c.unfollowed==P.unfollowed f)=true) (h9:(c.recurses==P.recurses f)=true) (h10:(c.named==P.varsNamed f)=true)
    (h11:((c.maps==(fn.params.toList++s.plain.varTypes P).any (P.mapsRec ·)) && (c.ifaces==(fn.params.toList++s.plain.varTypes P).any (P.ifacesRec ·)) && (c.mapsOut==P.mapsAmong fn.resultTypes.toList))=true)
    (h12:((c.loops==(fn.params.toList++s.plain.varTypes P).any (P.loopsFrom ·)) && (c.wideKeys==(fn.params.toList++s.plain.varTypes P++fn.resultTypes.toList).any (P.wideKeysFrom ·)))=true)
    (h13:(s.vars.all (P.varReadable ·) && fn.resultTypes.all (fun t=>P.readableRec t && decide (t< P.types.size)) && (c.ifacesOut==fn.resultTypes.toList.any (P.ifacesRec ·)) && (c.loopsOut==fn.resultTypes.toList.any (P.loopsFrom ·)) && (c.plainKeys==P.plainKeys) && c.shortTexts.isNone)=true)
    (h14:P.stopsHeard=true) (h15:P.mayEnter=true) (h16:(c.lifted==P.liftsFinal)=true)
    (h17:mkF P fn c=true)
    (h18:((c.veiled==(fn.params.toList++s.plain.varTypes P++fn.resultTypes.toList).any (P.veiledRec ·)) && c.veiledFits P fn.params.toList (fn.params.toList++s.plain.varTypes P++fn.resultTypes.toList))=true):
    joinedFacts P f fn s c=true:=by
 unfold mkF at h17
 simp only[Bool.and_eq_true] at h6 h11 h12 h13 h17 h18
 simp only[joinedFacts,Bool.and_eq_true]
 and_intros
 all_goals first|assumption|exact h6.1.1.1|exact h6.1.1.2|exact h6.1.2|exact h6.2|exact h11.1.1|exact h11.1.2|exact h11.2|exact h12.1|exact h12.2|exact h13.1.1.1.1.1|exact h13.1.1.1.1.2|exact h13.1.1.1.2|exact h13.1.1.2|exact h13.1.2|exact h13.2|exact h17.1.1|exact h17.1.2|exact h17.2|exact h18.1|exact h18.2
end
theorem sr_:laidOutB Tryz.prog=true:=by kernel_rfl
theorem all_mr:mapsRowed Tryz.prog=true:=by kernel_rfl
theorem all_sh:Tryz.prog.stopsHeard=true:=by kernel_rfl
theorem all_me:Tryz.prog.mayEnter=true:=by kernel_rfl
theorem all_lk:false=Tryz.prog.looks []:=by kernel_rfl
theorem all_mi:Tryz.prog.mainIs=some (true,("854b0172178e1658f68fdbd1af1c5e470e78f85c99764663bd0791e63856cf6f" :String).toList):=by kernel_rfl
theorem all_lf:Tryz.prog.liftsFinal=Rows.polyMembersRow.lifted:=by kernel_rfl
theorem g2_:Rows.ruleOrthogonalRow.wf (OpenSpec.ofChange Rows.ruleOrthogonalSpec)=true:=by kernel_rfl
theorem g8_:Tryz.f9.params.all (Tryz.prog.readableRec ·)=true:=by kernel_rfl
theorem ha_:namedTie Tryz.prog Rows.ruleOrthogonalRow.named Rows.ruleOrthogonalSpec.vars=true:=by kernel_rfl
theorem g7_:((Rows.ruleOrthogonalRow.stops==[]) && (Tryz.prog.stops==[]) && (Rows.ruleOrthogonalRow.knobs==[]) && (Tryz.prog.stopKnobs==[]))=true:=by kernel_rfl
theorem hg_:(Rows.ruleOrthogonalRow.inPlace==Tryz.prog.inPlace 9)=true:=by kernel_rfl
theorem g6_:(Rows.ruleOrthogonalRow.unfollowed==Tryz.prog.unfollowed 9)=true:=by kernel_rfl
theorem g9_:(Rows.ruleOrthogonalRow.recurses==Tryz.prog.recurses 9)=true:=by kernel_rfl
theorem g4_:(Rows.ruleOrthogonalRow.named==Tryz.prog.varsNamed 9)=true:=by kernel_rfl
theorem hb_:((Rows.ruleOrthogonalRow.maps==(Tryz.f9.params.toList++Rows.ruleOrthogonalSpec.plain.varTypes Tryz.prog).any (Tryz.prog.mapsRec ·)) && (Rows.ruleOrthogonalRow.ifaces==(Tryz.f9.params.toList++Rows.ruleOrthogonalSpec.plain.varTypes Tryz.prog).any (Tryz.prog.ifacesRec ·)) && (Rows.ruleOrthogonalRow.mapsOut==Tryz.prog.mapsAmong Tryz.f9.resultTypes.toList))=true:=by kernel_rfl
theorem hd_:((Rows.ruleOrthogonalRow.loops==(Tryz.f9.params.toList++Rows.ruleOrthogonalSpec.plain.varTypes Tryz.prog).any (Tryz.prog.loopsFrom ·)) && (Rows.ruleOrthogonalRow.wideKeys==(Tryz.f9.params.toList++Rows.ruleOrthogonalSpec.plain.varTypes Tryz.prog++Tryz.f9.resultTypes.toList).any (Tryz.prog.wideKeysFrom ·)))=true:=by kernel_rfl
theorem g3_:(Rows.ruleOrthogonalSpec.vars.all (Tryz.prog.varReadable ·) && Tryz.f9.resultTypes.all (fun t=>Tryz.prog.readableRec t && decide (t< Tryz.prog.types.size)) && (Rows.ruleOrthogonalRow.ifacesOut==Tryz.f9.resultTypes.toList.any (Tryz.prog.ifacesRec ·)) && (Rows.ruleOrthogonalRow.loopsOut==Tryz.f9.resultTypes.toList.any (Tryz.prog.loopsFrom ·)) && (Rows.ruleOrthogonalRow.plainKeys==Tryz.prog.plainKeys) && Rows.ruleOrthogonalRow.shortTexts.isNone)=true:=by kernel_rfl
theorem g5_:((Rows.ruleOrthogonalRow.veiled==(Tryz.f9.params.toList++Rows.ruleOrthogonalSpec.plain.varTypes Tryz.prog++Tryz.f9.resultTypes.toList).any (Tryz.prog.veiledRec ·)) && Rows.ruleOrthogonalRow.veiledFits Tryz.prog Tryz.f9.params.toList (Tryz.f9.params.toList++Rows.ruleOrthogonalSpec.plain.varTypes Tryz.prog++Tryz.f9.resultTypes.toList))=true:=by kernel_rfl
theorem g0_:Rows.ruleOrthogonalRow.wfByText (OpenSpec.ofChange Rows.ruleOrthogonalSpec)=true:=by kernel_rfl
theorem hh_:false=Rows.ruleOrthogonalRow.goesBy Tryz.prog:=by kernel_rfl
theorem ruleOrthogonal_fn:Tryz.prog.funcNamed Rows.ruleOrthogonalRow.func=some 9:=by kernel_rfl
theorem hf_:decide (Tryz.f9.isInstance Tryz.prog Rows.ruleOrthogonalRow.origin Rows.ruleOrthogonalRow.targs)=true:=by kernel_rfl
theorem g1_:(Tryz.f9.params.toList.all fun u=>!Tryz.prog.wantsStandIn u)=true:=by kernel_rfl
theorem hc_:mkF Tryz.prog Tryz.f9 Rows.ruleOrthogonalRow=true:=by kernel_rfl
theorem he_:(Rows.ruleOrthogonalRow.lifted==Tryz.prog.liftsFinal)=true:=by rw[all_lf];kernel_rfl
theorem e3_:joinedFacts Tryz.prog 9 Tryz.f9 Rows.ruleOrthogonalSpec Rows.ruleOrthogonalRow=true:=
 q6_ g2_ sr_ all_mr g8_ ha_ g7_ hg_ g6_ g9_ g4_ hb_ hd_ g3_ all_sh all_me he_ hc_ g5_
theorem fX_:Tryz.f9.isWrapper Tryz.prog Rows.ruleOrthogonalRow.wrapper Rows.ruleOrthogonalRow.mainSum:=by
 unfold Func.isWrapper;first|(rw[if_pos (by decide+kernel)];kernel_rfl)|(rw[if_neg (by decide+kernel)];exact⟨rfl,rfl⟩)
end Go.Proofs.YtdjfjpeoddmamaaGreatDoor
namespace Go.Proofs.YtdjfjpeoddmamaaGreatDoor
open Go.Abs Go.RowKit
theorem tab_glb:(Tryz.prog).globalNamed "internal/strconv.uint64pow10" =some GT:=by kernel_rfl
theorem tab_of{n1 n2:String}{a b:DataW Unit}{W:World}(h:laidMet Tryz.prog [(n1,a),(n2,b),("internal/strconv.uint64pow10",Lib.tabData .u64 Lib.pow10Tab)] W):TabW W:=by
 obtain⟨ps,⟨g1,t1,c1,u1,p1,q1,_,_,_,_,⟨g2,t2,c2,u2,p2,q2,_,_,_,_,⟨g,t,cs,fuel,p,q,hg,ht,hv,hd,_,_⟩,_⟩,_⟩,_,_⟩:=h
 obtain rfl:=Option.some.inj (tab_glb.symm.trans hg)
 have hT:((Tryz.prog).globals[GT]?).map (·.type)=some 351:=by kernel_rfl
 have hu:(Tryz.prog).underlying 351=some (.array 20 235):=by kernel_rfl
 have he:(Tryz.prog).underlying 235=some (.int .u64):=by kernel_rfl
 have hce:(Tryz.prog).cellsOf 235=1:=by kernel_rfl
 have hct:(Tryz.prog).cellsOf 351=20:=by kernel_rfl
 obtain rfl:=Option.some.inj (hT.symm.trans ht)
 have hc:=Lib.cells_of_tab (zs:=Lib.pow10Tab) hu he hce hct hd
 unfold World.var? at hv
 rw[tab_glb] at hv
 have hv':(match W.heap[GT]? with|some (.cells cs _ _)=>some cs|_=>none)=some cs:=hv
 cases hh:W.heap[GT]? with
 |none=>rw[hh] at hv';cases hv'
 |some o=>
  rw[hh] at hv'
  cases o with
  |cells a b c=>
   obtain rfl:a=cs:=Option.some.inj hv'
   refine⟨b,c,?_⟩
   rw[hh]
   have:a=tabA:=by
    unfold tabA
    rw[←hc]
   rw[this]
  |_=>cases hv'
end Go.Proofs.YtdjfjpeoddmamaaGreatDoor
namespace Go.Proofs.YtdjfjpeoddmamaaGreatDoor
open Go.Abs Go.ChangeAt Go.ChangeShapes Go.RowKit Go.WideShapes
theorem own:ownKnob Tryz.prog.godebug=none:=by kernel_rfl
theorem und4:Tryz.prog.underlying 4=some .bool:=by kernel_rfl
abbrev laid3:List (String×DataW Unit):=Rows.ruleOrthogonalRow.laid
theorem door_met(os:Os)(args:Array Value):laidMetH Tryz.prog laid3 ((World.doorLaid Tryz.prog 24 os).forCall (fun _ _=>0) ⟨#[],args,[]⟩).memory:=
 laidMetH_of_parts3 (fuel:=8) (laidMet_of_run' 8 (by kernel_rfl) (by kernel_rfl)) (by kernel_rfl) (by kernel_rfl)
set_option maxRecDepth 100000 in
theorem e2_(os:Os)(started:os.Started)(H:Type)(enc:TypeId×Value→H):
    ReturnsInHanded {} Tryz.checked os 9 .any (fun w args=>(Rows.ruleOrthogonalSpec.pre enc Tryz.prog Tryz.f9 [] false w args∧laidMetH Tryz.prog laid3 w)∧sizedMet enc Tryz.prog Tryz.f9 (OpenSpec.ofChange Rows.ruleOrthogonalSpec) false w args)
     (Rows.ruleOrthogonalSpec.post enc Tryz.prog Tryz.f9 false true false false):=by
 refine returnsInHanded_of_change_and (C:=Tryz.checked) (X:=fun w _=>laidMetH Tryz.prog laid3 w) (fun _ _ _ hh h=>h.of_heap hh) own started (by kernel_rfl) Tryz.func9
  (ChangeSpec.witness_shaped (enc:=enc) (C:=Tryz.checked) (os:=os) (X:=fun w _=>laidMetH Tryz.prog laid3 w) false (World.doorLaid Tryz.prog 24 os) #[(.agg #[.int .u8 0,.int .i64 0,.int .i64 0,.int .u8 0,.int .i64 0,.int .i64 0,.int .u8 0,.int .i64 0,.int .i64 0,.int .i64 0,.slice none 0 0,.bool false,.bool false,.int .i64 0,.int .i64 0,.int .u8 0,.int .i64 0,.int .i64 0,.int .u8 0]),(.int .i64 0)] 8 rfl (World.shaped_of_RefB (by kernel_rfl) (by kernel_rfl)) (by kernel_rfl) (by kernel_rfl) (by kernel_rfl) (door_met os _)) ?_
 intro W base args ds gs before hval0 hW _ _ hX _
 have hval:∀(j:Nat) t v,Tryz.f9.params[j]?=some t→args[j]?=some v→Value.okWide Tryz.prog W .any base t v:=hval0
 have hW':=hW
 obtain⟨p,q,hA0,hV,rfl,hfz,hnd⟩:=hW
 have hA:DataW.TrodAll enc Tryz.prog W 0 (fun _=>true) true Tryz.f9.params.toList args.toList ds p:=hA0
 rw[Tryz.params9] at hA hval
 obtain⟨v0,vs0,d0,ds0,p0,q0,hargs,rfl,rfl,h0,r0⟩:=trodAll_cons hA
 obtain⟨v1,vs1,d1,ds1,p1,q1,rfl,rfl,rfl,h1,r1⟩:=trodAll_cons r0
 obtain⟨rfl,rfl,rfl⟩:=trodAll_nil r1
 obtain rfl:args= #[v0,v1]:=by cases args;simp_all
 obtain⟨rfl,rfl⟩:=trodVars_none hV
 have lt0:∀x∈p0,x.block< W.heap.size:=by obtain⟨m,hm⟩:=h0;exact DataW.trod_lt m _ _ _ hm
 have lt1:∀x∈p1,x.block< W.heap.size:=by obtain⟨m,hm⟩:=h1;exact DataW.trod_lt m _ _ _ hm
 obtain⟨l0,o0,g0⟩:=loP_of (hval 0 75 v0 rfl rfl) h0
 obtain⟨l1,o1,g1⟩:=intP_of (hval 1 3 v1 rfl rfl) h1
 clear hA0 hval0
 refine((hq_ l0 l1 o0.1 o0.2 o1).calls (fun _=>False) W [v0,v1] ⟨fun _ h=>h.elim,fun h=>h,tab_of (by rw[MakeChecks.laidMetH_plain _ _ _ (by kernel_rfl)] at hX;exact hX)⟩ ⟨_,_,rfl,g0,⟨_,_,rfl,g1,rfl⟩⟩).mono fun e W' ⟨y,he,hy,bel⟩=>?_
 have hy':y= .bool true:=hy
 subst he;subst hy'
 exact⟨_,rfl,_,_,_,[],_,[],hW',trodAll_mk1 (shut_bool und4 _),(trodAll_cons_mk (Below.trod sr_ (by kernel_rfl) (of_decide_eq_true (by kernel_rfl)) h0 bel lt0) (trodAll_cons_mk (Below.trod sr_ (by kernel_rfl) (of_decide_eq_true (by kernel_rfl)) h1 bel lt1) trodAll_mk0)),rfl,bel.frame _,fun h=>by cases h⟩
theorem gi_:Rows.RuleOrthogonalSaid:=
 OpenClaim.holds_of_wide 9 Tryz.f9 rfl rfl rfl rfl rfl rfl rfl ⟨rfl,rfl,rfl,rfl,rfl⟩ rfl rfl rfl rfl rfl ruleOrthogonal_fn Tryz.func9 e3_
  (of_decide_eq_true hf_) fX_
  (fun os started H enc _=>e2_ os started H enc)
theorem ruleOrthogonal_card:Rows.RuleOrthogonalCardSaid:=
 Claim7.holds_tied_plain_at .later [] [.data,.data,.data] true (true, "854b0172178e1658f68fdbd1af1c5e470e78f85c99764663bd0791e63856cf6f") false
  gi_ (fun _ h=>by cases h) g0_ (fun _ h=>by cases h) ruleOrthogonal_row_tie rfl ⟨rfl,rfl⟩ all_mi rfl
  (fun f fn hf hfn=>by
   obtain rfl:f=9:=Option.some.inj (ruleOrthogonal_fn.symm.trans hf)|>.symm
   obtain rfl:fn=Tryz.f9:=(Option.some.inj (Tryz.func9.symm.trans hfn)).symm
   exact⟨all_lk,fun j t ht=>by
    have hm:t∈Tryz.f9.params.toList:=by simpa using Array.mem_of_getElem? ht
    exact(show Tryz.prog.wantsStandIn t=false by simpa using List.all_eq_true.1 g1_ t hm)⟩)
  hh_
#print axioms ruleOrthogonal_card
end Go.Proofs.YtdjfjpeoddmamaaGreatDoor
