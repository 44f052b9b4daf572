/- For every input the law EquationNodes returns true; the listed variables start as the program's text lays them (tied). -/
import Derived.Test.YtjkddcfoolilbaaGreatDoorW35
import Derived.Test.YtjkddcfoolilbaaGreatDoorRows
import Derived.JoinedOf
import Derived.SevenTiedAt
import Derived.Lib.LaidTab
import Derived.Test.YtjkddcfoolilbaaGreatDoorTie
import Derived.Test.YtjkddcfoolilbaaGreatDoorCards
import Derived.LaidMore
import Derived.Stop.Joined
import Derived.MakeChecks
set_option linter.all false
namespace Go.Proofs.YtjkddcfoolilbaaGreatDoor
open Go.Abs
set_option maxRecDepth 20000
set_option maxHeartbeats 4000000
theorem rL_rE(l:List Rat):rL l=rE (rP l):=rfl
def rNo(n:Nat):Option Mx→AV
 |none=> .tup [.arr (rE []),bln false]
 |some A=> .tup [.arr (rE (rP (tabP n fun i=>A i n/ A i i))),bln true]
theorem sG_{k:Ke}{l:Rat}{g x v:List Rat}(hke:okKe k)(hk:TmK k)(hd:degP g≤20)(hg:g.length≤5)(bg:bdL g 20)(hl:qs l≤20)(hn:x.length≤5)(bx:bdL x 20)(bv:bdL v 20)(hv:v.length=x.length):OkNo k l g x v 1100:=by
 have qx:∀t,qs (coP x t)≤20:=dv_ bx (by omega);have qv:∀t,qs (coP v t)≤20:=dv_ bv (by omega);have hl3:=hk.l;refine⟨hke,hd,by omega,by omega,hv,fun i j hi hj=>⟨⟨hke,fun p hp=>⟨ok_ev (by have:=(hk.n p hp).1;omega) (hk.b p hp).1 (qx i),ok_ev (by have:=(hk.n p hp).2;omega) (hk.b p hp).2 (qx j),?_⟩,fun t p hp=>?_⟩,?_⟩,fun q hq=>ok_ev (by omega) bg (bx q hq),fun i j hi hj=>?_,fun i hi=>?_,?_⟩;have h2:=ev_bd (hk.n p hp).1 (hk.b p hp).1 (qx i);have h3:=ev_bd (hk.n p hp).2 (hk.b p hp).2 (qx j);omega;have hm:=List.mem_of_getElem? hp;have ht:=(List.getElem?_eq_some_iff.1 hp).1;have h1:=at_bd hk (qx i) (qx j) t (by omega);have h2:=ev_bd (hk.n p hm).1 (hk.b p hm).1 (qx i);have h3:=ev_bd (hk.n p hm).2 (hk.b p hm).2 (qx j);have h4:=bH_ (evalP p.1 (coP x i)) (evalP p.2 (coP x j));omega;have h3:=my_ hk (qx i) (qx j);have:=qv j;omega;have h1:=bH_ (atK k (coP x i) (coP x j)) (coP v j);have h3:=my_ hk (qx i) (qx j);have:=qv j;unfold noA;omega;have h1:=ev_bd hg bg (qx i);omega;have:∀n,n≤5→slB 1100 n≤100000000000:=by decide
 exact this _ hn
theorem hp_(l:List TRow)(br:NRow)(gr xr vr:List NRow)(ho:∀t∈l,okT2 t)(hll:l.length≤9223372036854775807)(hb:okN br)(hg:okR gr)(hgl:gr.length≤9223372036854775807)(hx:okR xr)(hxl:xr.length≤9223372036854775807)(hv:okR vr)(hvl:vr.length≤9223372036854775807):
    FS 4 [.arr (twR l),.agg (nuC br.1 br.2.1 br.2.2),.arr (nR gr),.arr (nR xr),.arr (nR vr)] (.v (.bool true)):=by
 obtain⟨k1,k2,kb,hk,kc1,kc2,hkf⟩:=ke_cases l ho hll;obtain⟨g1,g2,gb,hr,gc1,gc2,hgf⟩:=ri_cases gr hg hgl;have ht:=gW_ [br] 1 (by simp) (by decide);have htx:=gW_ xr 30 hxl (by decide);have htv:=gW_ vr 30 hvl (by decide);have hw:=pp_;have hxr:(nR xr).length=xr.length:=by simp[nR]
 have cX:Closed (.arr (nR xr)):=ax_ (by_ xr);have cV:Closed (.arr (nR vr)):=ax_ (by_ vr);refine f_n Tryz.func4 ?_ ?_;exact aa_ (cn_ l) (aa_ (aw_ (gy_ br)) (aa_ (ax_ (by_ gr)) (aa_ cX (aa_ cV ac_))));refine r_z 2 ?_;refine r_c 9 (hk) ?_;refine a_z ?_;refine r_c 9 (hr) ?_;refine a_z ?_;refine AWp.ent (st':=⟨[(3,.arr (nR xr)),(4,.arr (nR vr)),(6,bNu br),(11,k1),(12,k2),(13,bln kb),(14,g1),(15,g2),(16,bln gb)],[],1,153⟩) ?_ ?_;refine s_x [] (fun hs=>?_) (fun hs=>?_)
 ·repeat' (first|exact aD_|refine an_ rfl ?_ ?_|exact ai_ hs kc1|exact ai_ hs kc2|exact ai_ hs gc1|exact ai_ hs gc2|exact ai_ hs cX|exact ai_ hs cV|exact Cv.boxp hs rfl (aB_ rfl) rfl (gy_ _)|exact au_c)
 ·repeat' (first|exact au_|refine h_c ?_ ?_|exact au_e|refine ar_ ?_|exact am_|refine ae_ ?_ ?_|exact ai_ hs kc1|exact ai_ hs kc2|exact ai_ hs gc1|exact ai_ hs gc2|exact ai_ hs cX|exact ai_ hs cV|exact Cv.boxp hs rfl (aB_ rfl) rfl (gy_ _)|exact au_c)
 cases kb with
 |false=>
  refine ab_ (s_r 32 ?_);refine o_0 (.move rfl) ?_;refine o_0 (.un rfl cJ_) ?_;refine o_0 (.move rfl) ?_;refine aK_ rfl rfl (by first|(simp[aF_];done)|exact nofun) rfl rfl ?_;refine aK_ rfl rfl (by first|(simp[aF_];done)|exact nofun) rfl rfl ?_;refine az_ (.pick rfl (fun _=>rfl) (fun h=>absurd h (by decide))) rfl rfl ?_;refine o_0 (.move rfl) ?_;refine aK_ rfl rfl (by first|(simp[aF_];done)|exact nofun) rfl rfl ?_;refine aK_ rfl rfl (by first|(simp[aF_];done)|exact nofun) rfl rfl ?_
  first|refine aK_ rfl rfl (by first|(simp[aF_];done)|exact nofun) rfl rfl ?_
  refine aK_ rfl rfl (by first|(simp[aF_];done)|exact nofun) rfl rfl ?_;refine az_ (.pick rfl (fun _=>rfl) (fun h=>absurd h (by decide))) rfl rfl ?_;refine o_0 (.move rfl) ?_;refine aK_ rfl rfl (by first|(simp[aF_];done)|exact nofun) rfl rfl ?_
  first|refine aK_ rfl rfl (by first|(simp[aF_];done)|exact nofun) rfl rfl ?_
  refine aK_ rfl rfl (by first|(simp[aF_];done)|exact nofun) rfl rfl ?_;refine az_ (.pick rfl (fun _=>rfl) (fun h=>absurd h (by decide))) rfl rfl ?_;refine o_0 (.move rfl) ?_;refine aK_ rfl rfl (by first|(simp[aF_];done)|exact nofun) rfl rfl ?_
  first|refine aK_ rfl rfl (by first|(simp[aF_];done)|exact nofun) rfl rfl ?_
  refine aK_ rfl rfl (by first|(simp[aF_];done)|exact nofun) rfl rfl ?_;refine az_ (.pick rfl (fun _=>rfl) (fun h=>absurd h (by decide))) rfl rfl ?_;refine o_0 (.move rfl) ?_;refine aK_ rfl rfl (by first|(simp[aF_];done)|exact nofun) rfl rfl ?_;refine aK_ rfl rfl (by first|(simp[aF_];done)|exact nofun) rfl rfl ?_;refine aK_ rfl rfl (by first|(simp[aF_];done)|exact nofun) rfl rfl ?_;refine aK_ rfl rfl (by first|(simp[aF_];done)|exact nofun) rfl rfl ?_;refine aK_ rfl rfl (by first|(simp[aF_];done)|exact nofun) rfl rfl ?_;refine aK_ rfl rfl (by first|(simp[aF_];done)|exact nofun) rfl rfl ?_;refine aK_ rfl rfl (by first|(simp[aF_];done)|exact nofun) rfl rfl ?_;refine aK_ rfl rfl (by first|(simp[aF_];done)|exact nofun) rfl rfl ?_;refine az_ (.pick rfl (fun _=>rfl) (fun h=>absurd h (by decide))) rfl rfl ?_;refine ak_ ?_;refine cT (r_c 2 (hw) ?_);refine a_z ?_;exact ag_ (t_e (ad_ _))
 |true=>
 cases gb with
 |false=>
  refine ab_ (s_r 32 ?_);refine o_0 (.move rfl) ?_;refine o_0 (.un rfl cJ_) ?_;refine o_0 (.move rfl) ?_;refine al_ rfl rfl rfl (.move rfl) rfl rfl ?_;refine al_ rfl rfl rfl (.un rfl cJ_) rfl rfl ?_;refine az_ (.pick rfl (fun _=>rfl) (fun _=>rfl)) rfl rfl ?_;refine o_0 (.move rfl) ?_;refine aK_ rfl rfl (by first|(simp[aF_];done)|exact nofun) rfl rfl ?_;refine aK_ rfl rfl (by first|(simp[aF_];done)|exact nofun) rfl rfl ?_
  first|refine aK_ rfl rfl (by first|(simp[aF_];done)|exact nofun) rfl rfl ?_
  refine aK_ rfl rfl (by first|(simp[aF_];done)|exact nofun) rfl rfl ?_;refine az_ (.pick rfl (fun _=>rfl) (fun h=>absurd h (by decide))) rfl rfl ?_;refine o_0 (.move rfl) ?_;refine aK_ rfl rfl (by first|(simp[aF_];done)|exact nofun) rfl rfl ?_
  first|refine aK_ rfl rfl (by first|(simp[aF_];done)|exact nofun) rfl rfl ?_
  refine aK_ rfl rfl (by first|(simp[aF_];done)|exact nofun) rfl rfl ?_;refine az_ (.pick rfl (fun _=>rfl) (fun h=>absurd h (by decide))) rfl rfl ?_;refine o_0 (.move rfl) ?_;refine aK_ rfl rfl (by first|(simp[aF_];done)|exact nofun) rfl rfl ?_
  first|refine aK_ rfl rfl (by first|(simp[aF_];done)|exact nofun) rfl rfl ?_
  refine aK_ rfl rfl (by first|(simp[aF_];done)|exact nofun) rfl rfl ?_;refine az_ (.pick rfl (fun _=>rfl) (fun h=>absurd h (by decide))) rfl rfl ?_;refine o_0 (.move rfl) ?_;refine aK_ rfl rfl (by first|(simp[aF_];done)|exact nofun) rfl rfl ?_;refine aK_ rfl rfl (by first|(simp[aF_];done)|exact nofun) rfl rfl ?_;refine aK_ rfl rfl (by first|(simp[aF_];done)|exact nofun) rfl rfl ?_;refine aK_ rfl rfl (by first|(simp[aF_];done)|exact nofun) rfl rfl ?_;refine aK_ rfl rfl (by first|(simp[aF_];done)|exact nofun) rfl rfl ?_;refine aK_ rfl rfl (by first|(simp[aF_];done)|exact nofun) rfl rfl ?_;refine aK_ rfl rfl (by first|(simp[aF_];done)|exact nofun) rfl rfl ?_;refine aK_ rfl rfl (by first|(simp[aF_];done)|exact nofun) rfl rfl ?_;refine az_ (.pick rfl (fun _=>rfl) (fun h=>absurd h (by decide))) rfl rfl ?_;refine ak_ ?_;refine cT (r_c 2 (hw) ?_);refine a_z ?_;exact ag_ (t_e (ad_ _))
 |true=>
 obtain⟨rfl,rfl,hkok⟩:=hkf rfl;obtain⟨rfl,rfl,hg40,hgt⟩:=hgf rfl;cases et:tameB [br] 1 with
 |false=>
  rw[et] at ht;refine ab_ (s_r 32 ?_);refine a_3 ?_;refine al_ rfl rfl rfl (.move rfl) rfl rfl ?_;refine al_ rfl rfl rfl (.un rfl cJ_) rfl rfl ?_;refine a_2 ?_;refine al_ rfl rfl rfl (.load_a rfl rfl TG.h TS.h (nle rfl)) rfl rfl ?_;refine AR.op1y rfl rfl rfl (.buildSlice te_25.h TZ.h rfl (by decide) rfl rfl rfl (by simp[nuC])) rfl rfl ?_;refine AR.op1y rfl rfl rfl (.callS1 rfl rfl rfl (.shut rfl d_n (.keep (.nil))) rfl (ht)) rfl rfl ?_;refine al_ rfl rfl rfl (.un rfl cJ_) rfl rfl ?_;refine az_ (.pick rfl (fun _=>rfl) (fun _=>rfl)) rfl rfl ?_;refine o_0 (.move rfl) ?_;refine aK_ rfl rfl (by first|(simp[aF_];done)|exact nofun) rfl rfl ?_
  first|refine aK_ rfl rfl (by first|(simp[aF_];done)|exact nofun) rfl rfl ?_
  refine aK_ rfl rfl (by first|(simp[aF_];done)|exact nofun) rfl rfl ?_;refine az_ (.pick rfl (fun _=>rfl) (fun h=>absurd h (by decide))) rfl rfl ?_;refine o_0 (.move rfl) ?_;refine aK_ rfl rfl (by first|(simp[aF_];done)|exact nofun) rfl rfl ?_
  first|refine aK_ rfl rfl (by first|(simp[aF_];done)|exact nofun) rfl rfl ?_
  refine aK_ rfl rfl (by first|(simp[aF_];done)|exact nofun) rfl rfl ?_;refine az_ (.pick rfl (fun _=>rfl) (fun h=>absurd h (by decide))) rfl rfl ?_;refine o_0 (.move rfl) ?_;refine aK_ rfl rfl (by first|(simp[aF_];done)|exact nofun) rfl rfl ?_;refine aK_ rfl rfl (by first|(simp[aF_];done)|exact nofun) rfl rfl ?_;refine aK_ rfl rfl (by first|(simp[aF_];done)|exact nofun) rfl rfl ?_;refine aK_ rfl rfl (by first|(simp[aF_];done)|exact nofun) rfl rfl ?_;refine aK_ rfl rfl (by first|(simp[aF_];done)|exact nofun) rfl rfl ?_;refine aK_ rfl rfl (by first|(simp[aF_];done)|exact nofun) rfl rfl ?_;refine aK_ rfl rfl (by first|(simp[aF_];done)|exact nofun) rfl rfl ?_;refine aK_ rfl rfl (by first|(simp[aF_];done)|exact nofun) rfl rfl ?_;refine az_ (.pick rfl (fun _=>rfl) (fun h=>absurd h (by decide))) rfl rfl ?_;refine ak_ ?_;refine cT (r_c 2 (hw) ?_);refine a_z ?_;exact ag_ (t_e (ad_ _))
 |true=>
 rw[et] at ht;cases ex:tameB xr 30 with
 |false=>
  rw[ex] at htx;refine ab_ (s_r 32 ?_);refine a_3 ?_;refine al_ rfl rfl rfl (.move rfl) rfl rfl ?_;refine al_ rfl rfl rfl (.un rfl cJ_) rfl rfl ?_;refine a_2 ?_;refine al_ rfl rfl rfl (.load_a rfl rfl TG.h TS.h (nle rfl)) rfl rfl ?_;refine AR.op1y rfl rfl rfl (.buildSlice te_25.h TZ.h rfl (by decide) rfl rfl rfl (by simp[nuC])) rfl rfl ?_;refine AR.op1y rfl rfl rfl (.callS1 rfl rfl rfl (.shut rfl d_n (.keep (.nil))) rfl (ht)) rfl rfl ?_;refine c_s (htx) ?_;refine al_ rfl rfl rfl (.un rfl cJ_) rfl rfl ?_;refine az_ (.pick rfl (fun _=>rfl) (fun _=>rfl)) rfl rfl ?_;refine o_0 (.move rfl) ?_;refine aK_ rfl rfl (by first|(simp[aF_];done)|exact nofun) rfl rfl ?_
  first|refine aK_ rfl rfl (by first|(simp[aF_];done)|exact nofun) rfl rfl ?_
  refine aK_ rfl rfl (by first|(simp[aF_];done)|exact nofun) rfl rfl ?_;refine az_ (.pick rfl (fun _=>rfl) (fun h=>absurd h (by decide))) rfl rfl ?_;refine o_0 (.move rfl) ?_;refine aK_ rfl rfl (by first|(simp[aF_];done)|exact nofun) rfl rfl ?_;refine aK_ rfl rfl (by first|(simp[aF_];done)|exact nofun) rfl rfl ?_;refine aK_ rfl rfl (by first|(simp[aF_];done)|exact nofun) rfl rfl ?_;refine aK_ rfl rfl (by first|(simp[aF_];done)|exact nofun) rfl rfl ?_;refine aK_ rfl rfl (by first|(simp[aF_];done)|exact nofun) rfl rfl ?_;refine aK_ rfl rfl (by first|(simp[aF_];done)|exact nofun) rfl rfl ?_;refine aK_ rfl rfl (by first|(simp[aF_];done)|exact nofun) rfl rfl ?_;refine aK_ rfl rfl (by first|(simp[aF_];done)|exact nofun) rfl rfl ?_;refine az_ (.pick rfl (fun _=>rfl) (fun h=>absurd h (by decide))) rfl rfl ?_;refine ak_ ?_;refine cT (r_c 2 (hw) ?_);refine a_z ?_;exact ag_ (t_e (ad_ _))
 |true=>
 rw[ex] at htx;cases ev:tameB vr 30 with
 |false=>
  rw[ev] at htv;refine ab_ (s_r 32 ?_);refine a_3 ?_;refine al_ rfl rfl rfl (.move rfl) rfl rfl ?_;refine al_ rfl rfl rfl (.un rfl cJ_) rfl rfl ?_;refine a_2 ?_;refine al_ rfl rfl rfl (.load_a rfl rfl TG.h TS.h (nle rfl)) rfl rfl ?_;refine AR.op1y rfl rfl rfl (.buildSlice te_25.h TZ.h rfl (by decide) rfl rfl rfl (by simp[nuC])) rfl rfl ?_;refine AR.op1y rfl rfl rfl (.callS1 rfl rfl rfl (.shut rfl d_n (.keep (.nil))) rfl (ht)) rfl rfl ?_;refine c_s (htx) ?_;refine c_s (htv) ?_;refine al_ rfl rfl rfl (.un rfl cJ_) rfl rfl ?_;refine az_ (.pick rfl (fun _=>rfl) (fun _=>rfl)) rfl rfl ?_;refine o_0 (.move rfl) ?_;refine aK_ rfl rfl (by first|(simp[aF_];done)|exact nofun) rfl rfl ?_;refine aK_ rfl rfl (by first|(simp[aF_];done)|exact nofun) rfl rfl ?_;refine aK_ rfl rfl (by first|(simp[aF_];done)|exact nofun) rfl rfl ?_;refine aK_ rfl rfl (by first|(simp[aF_];done)|exact nofun) rfl rfl ?_;refine aK_ rfl rfl (by first|(simp[aF_];done)|exact nofun) rfl rfl ?_;refine aK_ rfl rfl (by first|(simp[aF_];done)|exact nofun) rfl rfl ?_;refine aK_ rfl rfl (by first|(simp[aF_];done)|exact nofun) rfl rfl ?_;refine aK_ rfl rfl (by first|(simp[aF_];done)|exact nofun) rfl rfl ?_;refine az_ (.pick rfl (fun _=>rfl) (fun h=>absurd h (by decide))) rfl rfl ?_;refine ak_ ?_;refine cT (r_c 2 (hw) ?_);refine a_z ?_;exact ag_ (t_e (ad_ _))
 |true=>
 rw[ev] at htv;by_cases hn8:5< xr.length∧xr.length≤25
 ·refine ab_ (s_r 32 ?_)
  refine a_3 ?_;refine al_ rfl rfl rfl (.move rfl) rfl rfl ?_;refine al_ rfl rfl rfl (.un rfl cJ_) rfl rfl ?_;refine a_2 ?_;refine al_ rfl rfl rfl (.load_a rfl rfl TG.h TS.h (nle rfl)) rfl rfl ?_;refine AR.op1y rfl rfl rfl (.buildSlice te_25.h TZ.h rfl (by decide) rfl rfl rfl (by simp[nuC])) rfl rfl ?_;refine AR.op1y rfl rfl rfl (.callS1 rfl rfl rfl (.shut rfl d_n (.keep (.nil))) rfl (ht)) rfl rfl ?_;refine c_s (htx) ?_;refine c_s (htv) ?_;refine al_ rfl rfl rfl (.un rfl cJ_) rfl rfl ?_;refine a_2 ?_;refine al_ rfl rfl rfl (.move rfl) rfl rfl ?_;refine al_ rfl rfl rfl (.len rfl rfl rfl rfl rfl te_25.h) rfl rfl ?_;refine al_ rfl rfl rfl (.bin rfl rfl (vT a3_ (decide_eq_true (by omega)))) rfl rfl ?_;refine al_ rfl rfl rfl (.move rfl) rfl rfl ?_;refine al_ rfl rfl rfl (.move rfl) rfl rfl ?_;refine al_ rfl rfl rfl (.len rfl rfl rfl rfl rfl te_25.h) rfl rfl ?_;refine al_ rfl rfl rfl (.bin rfl rfl (vT bw_ (decide_eq_true (by omega)))) rfl rfl ?_;refine a_z ?_;refine cT (r_c 2 (hw) ?_);refine a_z ?_;exact ag_ (t_e (ad_ _))
 refine aQ_ (fun _:Unit=>⟨[(3,.arr (nR xr)),(4,.arr (nR vr)),(6,bNu br),(11,.arr (kE (keM l))),(12,.arr (keR (keM l))),(14,.arr (pE (nL gr))),(15,.arr (rE (rP (nL gr))))],[],1,153⟩) (fun _=>True) ?_ ?_;by_cases h8:5< xr.length
 ·refine s_r 32 ?_
  refine a_3 ?_;refine al_ rfl rfl rfl (.move rfl) rfl rfl ?_;refine al_ rfl rfl rfl (.un rfl cJ_) rfl rfl ?_;refine a_2 ?_;refine al_ rfl rfl rfl (.load_a rfl rfl TG.h TS.h (nle rfl)) rfl rfl ?_;refine AR.op1y rfl rfl rfl (.buildSlice te_25.h TZ.h rfl (by decide) rfl rfl rfl (by simp[nuC])) rfl rfl ?_;refine AR.op1y rfl rfl rfl (.callS1 rfl rfl rfl (.shut rfl d_n (.keep (.nil))) rfl (ht)) rfl rfl ?_;refine c_s (htx) ?_;refine c_s (htv) ?_;refine al_ rfl rfl rfl (.un rfl cJ_) rfl rfl ?_;refine a_2 ?_;refine al_ rfl rfl rfl (.move rfl) rfl rfl ?_;refine al_ rfl rfl rfl (.len rfl rfl rfl rfl rfl te_25.h) rfl rfl ?_;refine al_ rfl rfl rfl (.bin rfl rfl (vT a3_ (decide_eq_true (by omega)))) rfl rfl ?_;refine al_ rfl rfl rfl (.move rfl) rfl rfl ?_;refine al_ rfl rfl rfl (.move rfl) rfl rfl ?_;refine al_ rfl rfl rfl (.len rfl rfl rfl rfl rfl te_25.h) rfl rfl ?_;refine al_ rfl rfl rfl (.bin rfl rfl (vF bw_ (decide_eq_false (by omega)))) rfl rfl ?_;refine a_z ?_;refine cF (ah_ (⟨(),trivial,?_⟩));exact s_x [] (fun hs=>e_50) (fun hs=>e_51)
 ·refine s_r 32 ?_
  refine a_3 ?_;refine al_ rfl rfl rfl (.move rfl) rfl rfl ?_;refine al_ rfl rfl rfl (.un rfl cJ_) rfl rfl ?_;refine a_2 ?_;refine al_ rfl rfl rfl (.load_a rfl rfl TG.h TS.h (nle rfl)) rfl rfl ?_;refine AR.op1y rfl rfl rfl (.buildSlice te_25.h TZ.h rfl (by decide) rfl rfl rfl (by simp[nuC])) rfl rfl ?_;refine AR.op1y rfl rfl rfl (.callS1 rfl rfl rfl (.shut rfl d_n (.keep (.nil))) rfl (ht)) rfl rfl ?_;refine c_s (htx) ?_;refine c_s (htv) ?_;refine al_ rfl rfl rfl (.un rfl cJ_) rfl rfl ?_;refine a_2 ?_;refine al_ rfl rfl rfl (.move rfl) rfl rfl ?_;refine al_ rfl rfl rfl (.len rfl rfl rfl rfl rfl te_25.h) rfl rfl ?_;refine al_ rfl rfl rfl (.bin rfl rfl (vF a3_ (decide_eq_false (by omega)))) rfl rfl ?_;refine a_z ?_;refine cF (ah_ (⟨(),trivial,?_⟩));exact s_x [] (fun hs=>e_50) (fun hs=>e_51)
 rintro _ _
 have hbb:okR [br]:=fun r hr=>by
  rw[List.mem_singleton.1 hr];exact hb
 obtain⟨bn,_⟩:=gJ_ et hbb;have qb:qs (nV br)≤20:=bn _ (by simp[nL]);obtain⟨bx,lx⟩:=gJ_ ex hx;obtain⟨bv,lv⟩:=gJ_ ev hv;have b2:=ox_ br.1 br.2.1 br.2.2 hb.1 hb.2.1 hb.2.2
 have hLx:=nb_ xr (by have:(nL xr).length=xr.length:=by simp[nL]
                      omega) hx
 have hLv:=nb_ vr (by have:(nL vr).length=vr.length:=by simp[nL]
                      omega) hv
 rw[rL_rE] at hLx hLv;have hglen:(nL gr).length≤40:=by simpa[nL] using hg40
 have hgtame:degP (nL gr)≤20→bdL (nL gr) 20∧(nL gr).length≤5:=fun h=>by
  rcases hgt with h1|h1
  exact gJ_ h1 hg;omega
 obtain⟨f1,f2,f3⟩:=ke_facts ho hkok;have f2b:∀p∈keM l,p.1.length≤1099511627776∧p.2.length≤1099511627776:=fun p hp=>by have:=f2 p hp;omega
 have hbad:=fs_bad11 (keM l) (nL gr) f1 (fun p hp=>by have:=f2 p hp;omega) (by omega)
 have hn5:¬(5< (nL xr).length∧(nL xr).length≤25):=by
  have:(nL xr).length=xr.length:=by simp[nL]
  omega
 change qs (numV br.1 br.2.1 br.2.2)≤20 at qb;generalize nL gr=g at *
 generalize keM l=k at *
 generalize nL xr=x at *
 generalize nL vr=v at *
 refine r_c 9 (b2) ?_;refine a_z ?_;generalize numV br.1 br.2.1 br.2.2=L at *
 refine AWp.ent (st':=⟨[(3,.arr (nR xr)),(4,.arr (nR vr)),(11,.arr (kE k)),(12,.arr (keR k)),(14,.arr (pE g)),(15,.arr (rE (rP g))),(17,bQ L),(18,bRq L)],[],1,153⟩) ?_ ?_;refine s_x [] (fun hs=>?_) (fun hs=>?_)
 ·repeat' (first|exact aD_|refine an_ rfl ?_ ?_|exact ai_ hs (aA_ _)|exact ai_ hs (aO_ _)|exact ai_ hs cX|exact ai_ hs cV|exact Cv.boxp hs rfl (aB_ rfl) rfl (aN_ _)|exact Cv.boxp hs rfl (aB_ rfl) rfl (bL_ _)|exact au_c)
 ·repeat' (first|exact au_|refine h_c ?_ ?_|exact au_e|refine ar_ ?_|exact am_|refine ae_ ?_ ?_|exact ai_ hs (aA_ _)|exact ai_ hs (aO_ _)|exact ai_ hs cX|exact ai_ hs cV|exact Cv.boxp hs rfl (aB_ rfl) rfl (aN_ _)|exact Cv.boxp hs rfl (aB_ rfl) rfl (bL_ _)|exact au_c)
 refine r_c 7 (hLx) ?_;refine a_z ?_;refine r_c 7 (hLv) ?_;refine a_z ?_;have hx1:(rP x).length=x.length:=by simp[rP]
 have hv1:(rP v).length=v.length:=by simp[rP]
 cases eb:(!vaB k||decide (20< degP g)) with
 |true=>
  rw[eb] at hbad
  have hS:=m9_ k L g x v (by
   rw[Bool.or_eq_true] at eb;rcases eb with h|h
   exact .inl (by simpa using h);exact .inr (of_decide_eq_true h)) f1 f2b (by omega)
  refine r_c 12 (hS) ?_;refine a_z ?_;refine ab_ (r_c 15 (hbad) ?_);refine a_z ?_;refine cT (s_r 11 ?_);refine a_1 ?_;refine o_0 (.bin rfl rfl (vT aS_ (rfl))) ?_;refine a_1 ?_;refine al_ rfl rfl rfl (.move rfl) rfl rfl ?_;refine al_ rfl rfl rfl (.lenP rfl rfl rfl rfl te_32.h) rfl rfl ?_;refine al_ rfl rfl rfl (.bin rfl rfl (vT aS_ (rfl))) rfl rfl ?_;refine c_s (hw) ?_;refine a_z ?_;exact ag_ (t_e (ad_ _))
 |false=>
 rw[eb] at hbad;rw[Bool.or_eq_false_iff] at eb;have hva:vaB k=true:=by simpa using eb.1
 have hdg:degP g≤20:=by have:=of_decide_eq_false eb.2;omega
 obtain⟨v1,v2,v3⟩:=f3 hva;obtain⟨bg,lg⟩:=hgtame hdg;have hke:=qS_ hva f2b;by_cases hout:x.length≠v.length∨25< x.length;have hS:=m8_ k L g x v hke hdg (by omega) (by omega) (by omega) hout;refine r_c 12 (hS) ?_;refine a_z ?_;by_cases hl2:x.length=v.length
 ·refine ab_ (r_c 15 (hbad) ?_)
  refine a_1 ?_;refine al_ rfl rfl rfl (.move rfl) rfl rfl ?_;refine al_ rfl rfl rfl (.lenR rfl rfl rfl rfl te_34.h) rfl rfl ?_;refine al_ rfl rfl rfl (.move rfl) rfl rfl ?_;refine al_ rfl rfl rfl (.lenR rfl rfl rfl rfl te_34.h) rfl rfl ?_;refine al_ rfl rfl rfl (.bin rfl rfl (vF bu_ ((by simp[hx1,hv1,hl2])))) rfl rfl ?_;refine a_2 ?_;refine al_ rfl rfl rfl (.move rfl) rfl rfl ?_;refine al_ rfl rfl rfl (.lenR rfl rfl rfl rfl te_34.h) rfl rfl ?_;refine al_ rfl rfl rfl (.bin rfl rfl (vT a3_ (decide_eq_true (by omega)))) rfl rfl ?_;refine a_z ?_;refine cT (s_r 11 ?_);refine a_1 ?_;refine o_0 (.bin rfl rfl (vT aS_ (rfl))) ?_;refine a_1 ?_;refine al_ rfl rfl rfl (.move rfl) rfl rfl ?_;refine al_ rfl rfl rfl (.lenP rfl rfl rfl rfl te_32.h) rfl rfl ?_;refine al_ rfl rfl rfl (.bin rfl rfl (vT aS_ (rfl))) rfl rfl ?_;refine c_s (hw) ?_;refine a_z ?_;exact ag_ (t_e (ad_ _))
 ·refine ab_ (r_c 15 (hbad) ?_)
  refine a_1 ?_;refine al_ rfl rfl rfl (.move rfl) rfl rfl ?_;refine al_ rfl rfl rfl (.lenR rfl rfl rfl rfl te_34.h) rfl rfl ?_;refine al_ rfl rfl rfl (.move rfl) rfl rfl ?_;refine al_ rfl rfl rfl (.lenR rfl rfl rfl rfl te_34.h) rfl rfl ?_;refine al_ rfl rfl rfl (.bin rfl rfl (vT bu_ ((by simp[hx1,hv1];omega)))) rfl rfl ?_;refine a_z ?_;refine cT (s_r 11 ?_);refine a_1 ?_;refine o_0 (.bin rfl rfl (vT aS_ (rfl))) ?_;refine a_1 ?_;refine al_ rfl rfl rfl (.move rfl) rfl rfl ?_;refine al_ rfl rfl rfl (.lenP rfl rfl rfl rfl te_32.h) rfl rfl ?_;refine al_ rfl rfl rfl (.bin rfl rfl (vT aS_ (rfl))) rfl rfl ?_;refine c_s (hw) ?_;refine a_z ?_;exact ag_ (t_e (ad_ _))
 have hvx:v.length=x.length:=by omega
 have hx5:x.length≤5:=by omega
 have hT:TmK k:=⟨v1,v2,v3⟩;have hok:=sG_ (x:=x) (v:=v) hke hT hdg lg bg qb hx5 bx bv hvx;have hS:=pF_ k L g x v 1100 hok
 have hbd:bdM (noX k L g x v) x.length 1100:=nv_ hok.q fun i hi=>by
  have e:coP (x.map (evalP g)) i=evalP g (coP x i):=by
   unfold coP;rw[List.getD_eq_getElem?_getD,List.getD_eq_getElem?_getD];simp[hi]
  rw[e];exact hok.r i hi
 have hso:=bdL_oneL hbd;have hsl:=hok.s;change FSpec _ _ _ (if (slM (noX k L g x v) x.length x.length).2.length< x.length then _ else .tup [.arr (pE (oneL (slM (noX k L g x v) x.length x.length).1 x.length (slM (noX k L g x v) x.length x.length).2)),i64 0]) at hS;obtain⟨A,hA⟩:∃A,gjM (noX k L g x v) x.length x.length=A:=⟨_,rfl⟩
 have hR:FS 17 [.arr (keR k),.agg (rC (rq L)),.arr (rE (rP g)),.arr (rE (rP x)),.arr (rE (rP v))] (rNo x.length A):=by
  by_cases h0:x.length=0;have hx0:x=[]:=List.eq_nil_of_length_eq_zero h0;have hv0:v=[]:=List.eq_nil_of_length_eq_zero (by omega);subst hx0 hv0;subst hA;exact lW_ k L g;exact m0_ k L g x v hT lg bg qb ⟨by omega,hx5⟩ bx bv hvx _ A hA (by cases A <;> rfl)
 cases A with
 |none=>
  rw[if_pos (ra_ hA)] at hS;refine r_c 12 (hS) ?_;refine a_z ?_;refine ab_ (r_c 15 (hbad) ?_);refine a_1 ?_;refine al_ rfl rfl rfl (.move rfl) rfl rfl ?_;refine al_ rfl rfl rfl (.lenR rfl rfl rfl rfl te_34.h) rfl rfl ?_;refine al_ rfl rfl rfl (.move rfl) rfl rfl ?_;refine al_ rfl rfl rfl (.lenR rfl rfl rfl rfl te_34.h) rfl rfl ?_;refine al_ rfl rfl rfl (.bin rfl rfl (vF bu_ ((by simp[hx1,hv1,hvx])))) rfl rfl ?_;refine a_2 ?_;refine al_ rfl rfl rfl (.move rfl) rfl rfl ?_;refine al_ rfl rfl rfl (.lenR rfl rfl rfl rfl te_34.h) rfl rfl ?_;refine al_ rfl rfl rfl (.bin rfl rfl (vF a3_ (decide_eq_false (by omega)))) rfl rfl ?_;refine a_z ?_;refine cF (ah_ (r_c 11 (hR) ?_));refine a_z ?_;refine ab_ (r_z 2 ?_);refine cT (s_r 11 ?_);refine a_1 ?_;refine o_0 (.bin rfl rfl (vT aS_ (rfl))) ?_;refine a_1 ?_;refine al_ rfl rfl rfl (.move rfl) rfl rfl ?_;refine al_ rfl rfl rfl (.lenP rfl rfl rfl rfl te_32.h) rfl rfl ?_;refine al_ rfl rfl rfl (.bin rfl rfl (vT aS_ (rfl))) rfl rfl ?_;refine c_s (hw) ?_;refine a_z ?_;exact ag_ (t_e (ad_ _))
 |some A=>
  obtain⟨p1,p2⟩:=q8_ hA;rw[if_neg (by omega),p2] at hS;rw[p2] at hso;have hz5:slB 1100 x.length+1≤68719476736:=(by decide:∀n,n≤5→slB 1100 n+1≤68719476736) _ hx5;have hE:=fs_Alike _ (rP (tabP x.length fun i=>A i x.length/ A i i)) (lL_ _) (vR_rP _) (bdL_mono' hso hz5) (by simp;omega);refine r_c 12 (hS) ?_;refine a_z ?_;refine ab_ (r_c 15 (hbad) ?_);refine a_1 ?_;refine al_ rfl rfl rfl (.move rfl) rfl rfl ?_;refine al_ rfl rfl rfl (.lenR rfl rfl rfl rfl te_34.h) rfl rfl ?_;refine al_ rfl rfl rfl (.move rfl) rfl rfl ?_;refine al_ rfl rfl rfl (.lenR rfl rfl rfl rfl te_34.h) rfl rfl ?_;refine al_ rfl rfl rfl (.bin rfl rfl (vF bu_ ((by simp[hx1,hv1,hvx])))) rfl rfl ?_;refine a_2 ?_;refine al_ rfl rfl rfl (.move rfl) rfl rfl ?_;refine al_ rfl rfl rfl (.lenR rfl rfl rfl rfl te_34.h) rfl rfl ?_;refine al_ rfl rfl rfl (.bin rfl rfl (vF a3_ (decide_eq_false (by omega)))) rfl rfl ?_;refine a_z ?_;refine cF (ah_ (r_c 11 (hR) ?_));refine a_z ?_;refine ab_ (r_z 2 ?_);refine cF (ah_ (s_r 11 ?_));refine a_1 ?_;refine o_0 (.bin rfl rfl (vT aS_ (rfl))) ?_;refine c_s (hE) ?_;refine c_s (hw) ?_;refine a_z ?_;exact ag_ (t_e (ad_ _))
end Go.Proofs.YtjkddcfoolilbaaGreatDoor
namespace Go.Proofs.YtjkddcfoolilbaaGreatDoor
open Go
def mkF(P:Program)(fn:Func)(c:OpenClaim):Bool:=(P.make==some c.make) && (c.kinds==(if c.domain.isEmpty then [] else fn.params.toList.map fun t=>match P.underlying t with|some (.int k)=>some k|_=>none)) && (c.pinned==c.pinnedBy)
section
variable {P:Program}{f:FuncId}{fn:Func}{s:ChangeSpec}{c:OpenClaim}
theorem rh_ (h1:c.wf (OpenSpec.ofChange s)=true) (h2:laidOutB P=true) (h3:mapsRowed P=true)
    (h4:fn.params.all (P.readableRec ·)=true) (h5:namedTie P c.named s.vars=true)
    (h6:((c.stops==[]) && (P.stops==[]) && (c.knobs==[]) && (P.stopKnobs==[]))=true)
    (h7:(c.inPlace==P.inPlace f)=true) (h8:(c.unfollowed==P.unfollowed f)=true) (h9:(c.recurses==P.recurses f)=true) (h10:(c.named==P.varsNamed f)=true)
    (h11:((c.maps==(fn.params.toList++s.plain.varTypes P).any (P.mapsRec ·)) && (c.ifaces==(fn.params.toList++s.plain.varTypes P).any (P.ifacesRec ·)) && (c.mapsOut==P.mapsAmong fn.resultTypes.toList))=true)
    (h12:((c.loops==(fn.params.toList++s.plain.varTypes P).any (P.loopsFrom ·)) && (c.wideKeys==(fn.params.toList++s.plain.varTypes P++fn.resultTypes.toList).any (P.wideKeysFrom ·)))=true)
    (h13:(s.vars.all (P.varReadable ·) && fn.resultTypes.all (fun t=>P.readableRec t && decide (t< P.types.size)) && (c.ifacesOut==fn.resultTypes.toList.any (P.ifacesRec ·)) && (c.loopsOut==fn.resultTypes.toList.any (P.loopsFrom ·)) && (c.plainKeys==P.plainKeys) && c.shortTexts.isNone)=true)
    (h14:P.stopsHeard=true) (h15:P.mayEnter=true) (h16:(c.lifted==P.liftsFinal)=true)
    (h17:mkF P fn c=true)
    (h18:((c.veiled==(fn.params.toList++s.plain.varTypes P++fn.resultTypes.toList).any (P.veiledRec ·)) && c.veiledFits P fn.params.toList (fn.params.toList++s.plain.varTypes P++fn.resultTypes.toList))=true):
    joinedFacts P f fn s c=true:=by
 unfold mkF at h17;simp only[Bool.and_eq_true] at h6 h11 h12 h13 h17 h18;simp only[joinedFacts,Bool.and_eq_true]
 and_intros
 all_goals first|assumption|exact h6.1.1.1|exact h6.1.1.2|exact h6.1.2|exact h6.2|exact h11.1.1|exact h11.1.2|exact h11.2|exact h12.1|exact h12.2|exact h13.1.1.1.1.1|exact h13.1.1.1.1.2|exact h13.1.1.1.2|exact h13.1.1.2|exact h13.1.2|exact h13.2|exact h17.1.1|exact h17.1.2|exact h17.2|exact h18.1|exact h18.2
end
theorem j4_:laidOutB Tryz.prog=true:=by kernel_rfl
theorem all_mr:mapsRowed Tryz.prog=true:=by kernel_rfl
theorem all_sh:Tryz.prog.stopsHeard=true:=by kernel_rfl
theorem all_me:Tryz.prog.mayEnter=true:=by kernel_rfl
theorem all_lk:false=Tryz.prog.looks []:=by kernel_rfl
theorem all_mi:Tryz.prog.mainIs=some (true,("a2e722255ea34bf564eb212ae9a05d01d730f7efd93abc3b2089f3194f63ef81" :String).toList):=by kernel_rfl
theorem all_lf:Tryz.prog.liftsFinal=Rows.equationSeriesRow.lifted:=by kernel_rfl
theorem hs_:Rows.equationNodesRow.wf (OpenSpec.ofChange Rows.equationNodesSpec)=true:=by kernel_rfl
theorem hy_:Tryz.f4.params.all (Tryz.prog.readableRec ·)=true:=by kernel_rfl
theorem hA_:namedTie Tryz.prog Rows.equationNodesRow.named Rows.equationNodesSpec.vars=true:=by kernel_rfl
theorem hx_:((Rows.equationNodesRow.stops==[]) && (Tryz.prog.stops==[]) && (Rows.equationNodesRow.knobs==[]) && (Tryz.prog.stopKnobs==[]))=true:=by kernel_rfl
theorem hG_:(Rows.equationNodesRow.inPlace==Tryz.prog.inPlace 4)=true:=by kernel_rfl
theorem hw_:(Rows.equationNodesRow.unfollowed==Tryz.prog.unfollowed 4)=true:=by kernel_rfl
theorem hz_:(Rows.equationNodesRow.recurses==Tryz.prog.recurses 4)=true:=by kernel_rfl
theorem hu_:(Rows.equationNodesRow.named==Tryz.prog.varsNamed 4)=true:=by kernel_rfl
theorem hB_:((Rows.equationNodesRow.maps==(Tryz.f4.params.toList++Rows.equationNodesSpec.plain.varTypes Tryz.prog).any (Tryz.prog.mapsRec ·)) && (Rows.equationNodesRow.ifaces==(Tryz.f4.params.toList++Rows.equationNodesSpec.plain.varTypes Tryz.prog).any (Tryz.prog.ifacesRec ·)) && (Rows.equationNodesRow.mapsOut==Tryz.prog.mapsAmong Tryz.f4.resultTypes.toList))=true:=by kernel_rfl
theorem hD_:((Rows.equationNodesRow.loops==(Tryz.f4.params.toList++Rows.equationNodesSpec.plain.varTypes Tryz.prog).any (Tryz.prog.loopsFrom ·)) && (Rows.equationNodesRow.wideKeys==(Tryz.f4.params.toList++Rows.equationNodesSpec.plain.varTypes Tryz.prog++Tryz.f4.resultTypes.toList).any (Tryz.prog.wideKeysFrom ·)))=true:=by kernel_rfl
theorem ht_:(Rows.equationNodesSpec.vars.all (Tryz.prog.varReadable ·) && Tryz.f4.resultTypes.all (fun t=>Tryz.prog.readableRec t && decide (t< Tryz.prog.types.size)) && (Rows.equationNodesRow.ifacesOut==Tryz.f4.resultTypes.toList.any (Tryz.prog.ifacesRec ·)) && (Rows.equationNodesRow.loopsOut==Tryz.f4.resultTypes.toList.any (Tryz.prog.loopsFrom ·)) && (Rows.equationNodesRow.plainKeys==Tryz.prog.plainKeys) && Rows.equationNodesRow.shortTexts.isNone)=true:=by kernel_rfl
theorem hv_:((Rows.equationNodesRow.veiled==(Tryz.f4.params.toList++Rows.equationNodesSpec.plain.varTypes Tryz.prog++Tryz.f4.resultTypes.toList).any (Tryz.prog.veiledRec ·)) && Rows.equationNodesRow.veiledFits Tryz.prog Tryz.f4.params.toList (Tryz.f4.params.toList++Rows.equationNodesSpec.plain.varTypes Tryz.prog++Tryz.f4.resultTypes.toList))=true:=by kernel_rfl
theorem hq_:Rows.equationNodesRow.wfByText (OpenSpec.ofChange Rows.equationNodesSpec)=true:=by kernel_rfl
theorem hH_:false=Rows.equationNodesRow.goesBy Tryz.prog:=by kernel_rfl
theorem equationNodes_fn:Tryz.prog.funcNamed Rows.equationNodesRow.func=some 4:=by kernel_rfl
theorem hF_:decide (Tryz.f4.isInstance Tryz.prog Rows.equationNodesRow.origin Rows.equationNodesRow.targs)=true:=by kernel_rfl
theorem hr_:(Tryz.f4.params.toList.all fun u=>!Tryz.prog.wantsStandIn u)=true:=by kernel_rfl
theorem hC_:mkF Tryz.prog Tryz.f4 Rows.equationNodesRow=true:=by kernel_rfl
theorem hE_:(Rows.equationNodesRow.lifted==Tryz.prog.liftsFinal)=true:=by rw[all_lf];kernel_rfl
theorem fx_:joinedFacts Tryz.prog 4 Tryz.f4 Rows.equationNodesSpec Rows.equationNodesRow=true:=
 rh_ hs_ j4_ all_mr hy_ hA_ hx_ hG_ hw_ hz_ hu_ hB_ hD_ ht_ all_sh all_me hE_ hC_ hv_
theorem gt_:Tryz.f4.isWrapper Tryz.prog Rows.equationNodesRow.wrapper Rows.equationNodesRow.mainSum:=by
 unfold Func.isWrapper;first|(rw[if_pos (by decide+kernel)];kernel_rfl)|(rw[if_neg (by decide+kernel)];exact⟨rfl,rfl⟩)
end Go.Proofs.YtjkddcfoolilbaaGreatDoor
namespace Go.Proofs.YtjkddcfoolilbaaGreatDoor
open Go.Abs Go.RowKit
theorem tab_glb:(Tryz.prog).globalNamed "internal/strconv.uint64pow10" =some GT:=by kernel_rfl
theorem tab_of{n1 n2:String}{a b:DataW Unit}{W:World}(h:laidMet Tryz.prog [(n1,a),(n2,b),("internal/strconv.uint64pow10",Lib.tabData .u64 Lib.pow10Tab)] W):TabW W:=by
 obtain⟨ps,⟨g1,t1,c1,u1,p1,q1,_,_,_,_,⟨g2,t2,c2,u2,p2,q2,_,_,_,_,⟨g,t,cs,fuel,p,q,hg,ht,hv,hd,_,_⟩,_⟩,_⟩,_,_⟩:=h;obtain rfl:=Option.some.inj (tab_glb.symm.trans hg);have hT:((Tryz.prog).globals[GT]?).map (·.type)=some 315:=by kernel_rfl
 have hu:(Tryz.prog).underlying 315=some (.array 20 205):=by kernel_rfl
 have he:(Tryz.prog).underlying 205=some (.int .u64):=by kernel_rfl
 have hce:(Tryz.prog).cellsOf 205=1:=by kernel_rfl
 have hct:(Tryz.prog).cellsOf 315=20:=by kernel_rfl
 obtain rfl:=Option.some.inj (hT.symm.trans ht);have hc:=Lib.cells_of_tab (zs:=Lib.pow10Tab) hu he hce hct hd;unfold World.var? at hv;rw[tab_glb] at hv;have hv':(match W.heap[GT]? with|some (.cells cs _ _)=>some cs|_=>none)=some cs:=hv;cases hh:W.heap[GT]? with
 |none=>rw[hh] at hv';cases hv'
 |some o=>
  rw[hh] at hv';cases o with
  |cells a b c=>
   obtain rfl:a=cs:=Option.some.inj hv';refine⟨b,c,?_⟩;rw[hh]
   have:a=tabA:=by
    unfold tabA;rw[←hc]
   rw[this]
  |_=>cases hv'
end Go.Proofs.YtjkddcfoolilbaaGreatDoor
namespace Go.Proofs.YtjkddcfoolilbaaGreatDoor
open Go.Abs Go.ChangeAt Go.ChangeShapes Go.RowKit Go.WideShapes
theorem own:ownKnob Tryz.prog.godebug=none:=by kernel_rfl
theorem und4:Tryz.prog.underlying 4=some .bool:=by kernel_rfl
abbrev laid3:List (String×DataW Unit):=Rows.equationNodesRow.laid
theorem door_met(os:Os)(args:Array Value):laidMetH Tryz.prog laid3 ((World.doorLaid Tryz.prog 24 os).forCall (fun _ _=>0) ⟨#[],args,[]⟩).memory:=
 laidMetH_of_parts3 (fuel:=8) (laidMet_of_run' 8 (by kernel_rfl) (by kernel_rfl)) (by kernel_rfl) (by kernel_rfl)
set_option maxRecDepth 100000 in
theorem fw_(os:Os)(started:os.Started)(H:Type)(enc:TypeId×Value→H):
    ReturnsInHanded {} Tryz.checked os 4 .any (fun w args=>(Rows.equationNodesSpec.pre enc Tryz.prog Tryz.f4 [] false w args∧laidMetH Tryz.prog laid3 w)∧sizedMet enc Tryz.prog Tryz.f4 (OpenSpec.ofChange Rows.equationNodesSpec) false w args)
     (Rows.equationNodesSpec.post enc Tryz.prog Tryz.f4 false true false false):=by
 refine returnsInHanded_of_change_and (C:=Tryz.checked) (X:=fun w _=>laidMetH Tryz.prog laid3 w) (fun _ _ _ hh h=>h.of_heap hh) own started (by kernel_rfl) Tryz.func4
  (ChangeSpec.witness_shaped (enc:=enc) (C:=Tryz.checked) (os:=os) (X:=fun w _=>laidMetH Tryz.prog laid3 w) false (World.doorLaid Tryz.prog 24 os) #[.slice none 0 0,(.agg #[.int .i64 0,.int .i64 0,.int .u8 0]),.slice none 0 0,.slice none 0 0,.slice none 0 0] 8 rfl (World.shaped_of_RefB (by kernel_rfl) (by kernel_rfl)) (by kernel_rfl) (by kernel_rfl) (by kernel_rfl) (door_met os _)) ?_
 intro W base args ds gs before hval0 hW _ _ hX _;have hval:∀(j:Nat) t v,Tryz.f4.params[j]?=some t→args[j]?=some v→Value.okWide Tryz.prog W .any base t v:=hval0;have hW':=hW;obtain⟨p,q,hA0,hV,rfl,hfz,hnd⟩:=hW;have hA:DataW.TrodAll enc Tryz.prog W 0 (fun _=>true) true Tryz.f4.params.toList args.toList ds p:=hA0;rw[Tryz.params4] at hA hval;obtain⟨v0,vs0,d0,ds0,p0,q0,hargs,rfl,rfl,h0,r0⟩:=trodAll_cons hA;obtain⟨v1,vs1,d1,ds1,p1,q1,rfl,rfl,rfl,h1,r1⟩:=trodAll_cons r0;obtain⟨v2,vs2,d2,ds2,p2,q2,rfl,rfl,rfl,h2,r2⟩:=trodAll_cons r1;obtain⟨v3,vs3,d3,ds3,p3,q3,rfl,rfl,rfl,h3,r3⟩:=trodAll_cons r2;obtain⟨v4,vs4,d4,ds4,p4,q4,rfl,rfl,rfl,h4,r4⟩:=trodAll_cons r3;obtain⟨rfl,rfl,rfl⟩:=trodAll_nil r4;obtain rfl:args= #[v0,v1,v2,v3,v4]:=by cases args;simp_all
 obtain⟨rfl,rfl⟩:=trodVars_none hV;obtain⟨a0,len0,cap0,rfl⟩:=okWide_slice tySt (hval 0 22 v0 rfl rfl);obtain⟨a2,len2,cap2,rfl⟩:=okWide_slice tyS (hval 2 25 v2 rfl rfl);obtain⟨a3,len3,cap3,rfl⟩:=okWide_slice tyS (hval 3 25 v3 rfl rfl);obtain⟨a4,len4,cap4,rfl⟩:=okWide_slice tyS (hval 4 25 v4 rfl rfl);have lt0:∀x∈p0,x.block< W.heap.size:=by obtain⟨m,hm⟩:=h0;exact DataW.trod_lt m _ _ _ hm
 have lt1:∀x∈p1,x.block< W.heap.size:=by obtain⟨m,hm⟩:=h1;exact DataW.trod_lt m _ _ _ hm
 have lt2:∀x∈p2,x.block< W.heap.size:=by obtain⟨m,hm⟩:=h2;exact DataW.trod_lt m _ _ _ hm
 have lt3:∀x∈p3,x.block< W.heap.size:=by obtain⟨m,hm⟩:=h3;exact DataW.trod_lt m _ _ _ hm
 have lt4:∀x∈p4,x.block< W.heap.size:=by obtain⟨m,hm⟩:=h4;exact DataW.trod_lt m _ _ _ hm
 obtain⟨l0,o0,g0⟩:=twP_of h0;obtain⟨l1,o1,g1⟩:=numP_of (hval 1 24 v1 rfl rfl) h1;obtain⟨l2,o2,g2⟩:=iq_ h2;obtain⟨l3,o3,g3⟩:=iq_ h3;obtain⟨l4,o4,g4⟩:=iq_ h4;clear hA0 hval0;refine((hp_ l0 l1 l2 l3 l4 o0.1 o0.2 o1 o2 (rvlen g2) o3 (rvlen g3) o4 (rvlen g4)).calls (fun _=>False) W [.slice a0 len0 cap0,v1,.slice a2 len2 cap2,.slice a3 len3 cap3,.slice a4 len4 cap4] ⟨fun _ h=>h.elim,fun h=>h,tab_of (by rw[MakeChecks.laidMetH_plain _ _ _ (by kernel_rfl)] at hX;exact hX)⟩ ⟨_,_,rfl,g0,⟨_,_,rfl,g1,⟨_,_,rfl,g2,⟨_,_,rfl,g3,⟨_,_,rfl,g4,rfl⟩⟩⟩⟩⟩).mono fun e W' ⟨y,he,hy,bel⟩=>?_;have hy':y= .bool true:=hy;subst he;subst hy';exact⟨_,rfl,_,_,_,[],_,[],hW',trodAll_mk1 (shut_bool und4 _),(trodAll_cons_mk (Below.trod j4_ (by kernel_rfl) (of_decide_eq_true (by kernel_rfl)) h0 bel lt0) (trodAll_cons_mk (Below.trod j4_ (by kernel_rfl) (of_decide_eq_true (by kernel_rfl)) h1 bel lt1) (trodAll_cons_mk (Below.trod j4_ (by kernel_rfl) (of_decide_eq_true (by kernel_rfl)) h2 bel lt2) (trodAll_cons_mk (Below.trod j4_ (by kernel_rfl) (of_decide_eq_true (by kernel_rfl)) h3 bel lt3) (trodAll_cons_mk (Below.trod j4_ (by kernel_rfl) (of_decide_eq_true (by kernel_rfl)) h4 bel lt4) trodAll_mk0))))),rfl,bel.frame _,fun h=>by cases h⟩
theorem g0_:Rows.EquationNodesSaid:=
 OpenClaim.holds_of_wide 4 Tryz.f4 rfl rfl rfl rfl rfl rfl rfl ⟨rfl,rfl,rfl,rfl,rfl⟩ rfl rfl rfl rfl rfl equationNodes_fn Tryz.func4 fx_
  (of_decide_eq_true hF_) gt_
  (fun os started H enc _=>fw_ os started H enc)
theorem equationNodes_card:Rows.EquationNodesCardSaid:=
 Claim7.holds_tied_plain_at .later [] [.data,.data,.data] true (true, "a2e722255ea34bf564eb212ae9a05d01d730f7efd93abc3b2089f3194f63ef81") false
  g0_ (fun _ h=>by cases h) hq_ (fun _ h=>by cases h) equationNodes_row_tie rfl ⟨rfl,rfl⟩ all_mi rfl
  (fun f fn hf hfn=>by
   obtain rfl:f=4:=Option.some.inj (equationNodes_fn.symm.trans hf)|>.symm;obtain rfl:fn=Tryz.f4:=(Option.some.inj (Tryz.func4.symm.trans hfn)).symm
   exact⟨all_lk,fun j t ht=>by
    have hm:t∈Tryz.f4.params.toList:=by simpa using Array.mem_of_getElem? ht
    exact(show Tryz.prog.wantsStandIn t=false by simpa using List.all_eq_true.1 hr_ t hm)⟩)
  hH_
#print axioms equationNodes_card
end Go.Proofs.YtjkddcfoolilbaaGreatDoor
