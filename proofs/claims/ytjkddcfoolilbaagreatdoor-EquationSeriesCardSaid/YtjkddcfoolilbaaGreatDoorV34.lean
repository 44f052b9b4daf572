/- For every input the law EquationSeries returns true; the listed variables start as the program's text lays them (tied). -/
import Derived.Test.YtjkddcfoolilbaaGreatDoorV33
import Derived.Test.YtjkddcfoolilbaaGreatDoorRows
import Derived.JoinedOf
import Derived.SevenTiedAt
import Derived.Lib.LaidTab
import Derived.Test.YtjkddcfoolilbaaGreatDoorTie
import Derived.Test.YtjkddcfoolilbaaGreatDoorCards
import Derived.LaidMore
import Derived.Stop.Joined
import Derived.MakeChecks
set_option linter.all false
namespace Go.Proofs.YtjkddcfoolilbaaGreatDoor
open Go.Abs
set_option maxRecDepth 20000
set_option maxHeartbeats 4000000
theorem ke_cases(l:List TRow)(ho:∀t∈l,okT2 t)(hl:l.length≤9223372036854775807):∃k1 k2 b,FS 6 [.arr (twR l)] (.tup [k1,k2,bln b])∧Closed k1∧Closed k2∧(b=true→k1= .arr (kE (keM l))∧k2= .arr (keR (keM l))∧keOk l=true):=by
 have h:=pW_ l ho hl;unfold keV at h;cases e:keOk l with
 |true=>rw[e] at h;exact⟨_,_,true,h,aE_ _,a1_ _,fun _=>⟨rfl,rfl,rfl⟩⟩
 |false=>rw[e] at h;exact⟨_,_,false,h,aE_ _,a1_ _,fun h=>by cases h⟩
theorem ri_cases(l:List NRow)(ho:okR l)(hl:l.length≤9223372036854775807):∃k1 k2 b,FS 7 [.arr (nR l)] (.tup [k1,k2,bln b])∧Closed k1∧Closed k2∧(b=true→k1= .arr (pE (nL l))∧k2= .arr (rE (rP (nL l)))∧l.length≤40∧(tameB l 5=true∨20< degP (nL l))):=by
 have h:=sa_ l ho hl;by_cases e:40< l.length;rw[if_pos e] at h;exact⟨_,_,false,h,ar_ _,aQ_ _,fun h=>by cases h⟩;rw[if_neg e] at h;exact⟨_,_,_,h,ar_ _,aQ_ _,fun h=>⟨rfl,rfl,by omega,by simpa using h⟩⟩
theorem ke_facts{l:List TRow}(ho:∀t∈l,okT2 t)(h:keOk l=true):(keM l).length≤1000∧(∀p∈keM l,p.1.length≤30∧p.2.length≤30)∧(vaB (keM l)=true→(keM l).length≤3∧(∀p∈keM l,p.1.length≤4∧p.2.length≤4)∧∀p∈keM l,bdL p.1 20∧bdL p.2 20):=by
 unfold keOk at h;rw[Bool.and_eq_true,List.all_eq_true] at h;obtain⟨h1,h2⟩:=h
 have hlen:l.length≤12∧(3< l.length→8< l.length):=by
  unfold lenOk at h1;simp only[Bool.not_eq_true',Bool.or_eq_false_iff,Bool.and_eq_false_iff,decide_eq_false_iff_not] at h1;omega
 have hp:∀p∈keM l,∃t∈l,p=(nL t.1,nL t.2):=fun p hp=>by
  obtain⟨t,ht,e⟩:=List.mem_map.1 hp;exact⟨t,ht,e.symm⟩
 have hs:∀t∈l,t.1.length≤30∧t.2.length≤30∧dr_ t.1=true∧dr_ t.2=true:=fun t ht=>by
  have h3:=h2 t ht;unfold en_ longT at h3;simp only[Bool.and_eq_true,Bool.not_eq_true',Bool.or_eq_false_iff,decide_eq_false_iff_not] at h3;exact⟨by omega,by omega,h3.2.1,h3.2.2⟩
 refine⟨by rw[c1_];omega,fun p hp'=>?_,fun hv=>?_⟩;obtain⟨t,ht,rfl⟩:=hp p hp';obtain⟨a1,a2,_,_⟩:=hs t ht;exact⟨by simpa[nL] using a1,by simpa[nL] using a2⟩;unfold vaB at hv;simp only[Bool.and_eq_true,Bool.not_eq_true',decide_eq_true_eq] at hv;obtain⟨v1,v2⟩:=hv;rw[c1_] at v2
 have hb:∀t∈l,(bdL (nL t.1) 20∧(nL t.1).length≤4)∧bdL (nL t.2) 20∧(nL t.2).length≤4:=fun t ht=>by
  obtain⟨_,_,a3,a4⟩:=hs t ht
  have hbig:bigR (nL t.1,nL t.2)=false:=by
   have:=List.any_eq_false.1 v1 (nL t.1,nL t.2) (List.mem_map.2 ⟨t,ht,rfl⟩);simpa using this
  unfold bigR at hbig;rw[Bool.or_eq_false_iff] at hbig;unfold dr_ at a3 a4
  have g1:tameB t.1 4=true:=by
   rw[Bool.or_eq_true] at a3;rcases a3 with a3|a3
   exact a3;rw[hbig.1] at a3;cases a3
  have g2:tameB t.2 4=true:=by
   rw[Bool.or_eq_true] at a4;rcases a4 with a4|a4
   exact a4;rw[hbig.2] at a4;cases a4
  exact⟨kf_ g1 (ho t ht).1.1,kf_ g2 (ho t ht).1.2⟩
 refine⟨by rw[c1_];omega,fun p hp'=>?_,fun p hp'=>?_⟩;obtain⟨t,ht,rfl⟩:=hp p hp';exact⟨(hb t ht).1.2,(hb t ht).2.2⟩;obtain⟨t,ht,rfl⟩:=hp p hp';exact⟨(hb t ht).1.1,(hb t ht).2.1⟩
theorem trim_se(k:Ke)(G:List Rat)(L:Rat)(n r:Nat):trimQ (seK k G L n (r+1))=seK k G L n (r+1):=by
 rw[seK,cutP,ck_]
theorem se_bd{k:Ke}{l:Rat}{g:List Rat}{a:Rat}{n:Nat}(hn:n≤40)(hkl:k.length≤3)(h4:∀p∈k,p.1.length≤4∧p.2.length≤4)(hb:∀p∈k,bdL p.1 20∧bdL p.2 20)(hg:g.length≤5)(bg:bdL g 20)(hl:qs l≤20)(ha:qs a≤20):bdL (seK (mvK a k) (compP [a,1] g) l n (n+1)) 68719476736:=by
 obtain⟨KA,KB,hk,A0,B0,IA,IBB⟩:=lh_ hkl h4 hb;obtain⟨ha2,hd,d0⟩:=ju_ ha;obtain⟨hl2,hld,l0⟩:=ju_ hl;obtain⟨KG,HG⟩:=jv_ g bg;have HG:=HG.mono (show _≤101 by omega);obtain⟨KA',KB',hk',A0',B0',IA',IBB'⟩:=mK_ hk A0 B0 IA IBB d0 hd ha2;obtain⟨KG',HG'⟩:=HS_shift' (N:=4) d0 hd ha2 HG (by omega);have HG':=HG'.mono (show _≤3000 by omega);have hkl':(mvK a k).length≤900:=by unfold mvK;simp;omega
 obtain⟨⟨K,H⟩,_⟩:=qL_ (k:=mvK a k) (G:=compP [a,1] g) (L:=l) hk' hkl' (by omega) (by omega) A0' B0' IA' IBB' HG' l0 hld hl2 hn (n+1) (by omega);exact bdL_mono' (H.bdL (by omega)) (by omega)
def bNu(r:NRow):AV:= .aptr [nuC r.1 r.2.1 r.2.2] 0 0
theorem gJ_(r:NRow):∀c∈nuC r.1 r.2.1 r.2.2,Closed c:=aa_ (ad_ _) (aa_ (ad_ _) (aa_ (ad_ _) ac_))
theorem closed_bNu(r:NRow):Closed (bNu r):=aL_ (gJ_ r)
theorem gY_(l:List TRow)(ar br:NRow)(gr:List NRow)(n:Int)(ho:∀t∈l,okT2 t)(hll:l.length≤9223372036854775807)(ha:okN ar)(hb:okN br)(hg:okR gr)(hgl:gr.length≤9223372036854775807)(hn:i64r n):
    FS 3 [.arr (twR l),.agg (nuC ar.1 ar.2.1 ar.2.2),.agg (nuC br.1 br.2.1 br.2.2),.arr (nR gr),i64 n] (.v (.bool true)):=by
 obtain⟨k1,k2,kb,hk,kc1,kc2,hkf⟩:=ke_cases l ho hll;obtain⟨g1,g2,gb,hr,gc1,gc2,hgf⟩:=ri_cases gr hg hgl;have ht:=kO_ [ar,br] 2 (by simp) (by decide);have hw:=pD_;refine f_n Tryz.func3 ?_ ?_;exact aa_ (cq_ l) (aa_ (ay_ (gJ_ ar)) (aa_ (ay_ (gJ_ br)) (aa_ (aB_ (bC_ gr)) (aa_ (ad_ _) ac_))));refine r_z 3 ?_;refine r_c 9 (hk) ?_;refine a_z ?_;refine r_c 9 (hr) ?_;refine a_z ?_;refine AWp.ent (st':=⟨[(4,i64 n),(6,bNu ar),(7,bNu br),(11,k1),(12,k2),(13,bln kb),(14,g1),(15,g2),(16,bln gb)],[],1,115⟩) ?_ ?_;refine s_x [] (fun hs=>?_) (fun hs=>?_)
 ·repeat' (first|exact aH_|refine ap_ rfl ?_ ?_|exact ak_ hs kc1|exact ak_ hs kc2|exact ak_ hs gc1|exact ak_ hs gc2|exact Cv.boxp hs rfl (aK_ rfl) rfl (gJ_ _)|exact au_c)
 ·repeat' (first|exact az_|refine h_c ?_ ?_|exact au_e|refine av_ ?_|exact an_|refine ai_ ?_ ?_|exact ak_ hs kc1|exact ak_ hs kc2|exact ak_ hs gc1|exact ak_ hs gc2|exact Cv.boxp hs rfl (aK_ rfl) rfl (gJ_ _)|exact au_c)
 cases kb with
 |false=>
  refine ab_ (s_r 21 ?_);refine o_0 (.move rfl) ?_;refine o_0 (.un rfl cR_) ?_;refine o_0 (.move rfl) ?_
  first|refine ag_ rfl rfl rfl (.move rfl) rfl rfl ?_|refine au_ rfl rfl (by first|(simp[as_];done)|exact nofun) rfl rfl ?_
  first|refine ag_ rfl rfl rfl (.un rfl cR_) rfl rfl ?_|refine au_ rfl rfl (by first|(simp[as_];done)|exact nofun) rfl rfl ?_
  first|refine aA_ (.pick rfl (fun _=>rfl) (fun _=>rfl)) rfl rfl ?_|refine aA_ (.pick rfl (fun _=>rfl) (fun h=>absurd h (by decide))) rfl rfl ?_|refine aA_ (.pick rfl (fun h=>absurd h (by decide)) (fun _=>rfl)) rfl rfl ?_
  refine o_0 (.move rfl) ?_
  first|refine ag_ rfl rfl rfl (.load_l rfl rfl rfl TG.h TS.h (nle rfl)) rfl rfl ?_|refine ag_ rfl rfl rfl (.load_a rfl rfl TG.h TS.h (nle rfl)) rfl rfl ?_|refine au_ rfl rfl (by first|(simp[as_];done)|exact nofun) rfl rfl ?_
  first|refine ag_ rfl rfl rfl (.load_l rfl rfl rfl TG.h TS.h (nle rfl)) rfl rfl ?_|refine ag_ rfl rfl rfl (.load_a rfl rfl TG.h TS.h (nle rfl)) rfl rfl ?_|refine au_ rfl rfl (by first|(simp[as_];done)|exact nofun) rfl rfl ?_
  first|refine AR.op1y rfl rfl rfl (.buildSlice te_25.h TZ.h rfl (by decide) rfl rfl rfl (by first|(simp;done)|(simp[a4_,ofV];done)|rfl)) rfl rfl ?_|refine au_ rfl rfl (by first|(simp[as_];done)|exact nofun) rfl rfl ?_
  first|refine au_ rfl rfl (by first|(simp[as_];done)|exact nofun) rfl rfl ?_
  first|refine ag_ rfl rfl rfl (.un rfl cR_) rfl rfl ?_|refine au_ rfl rfl (by first|(simp[as_];done)|exact nofun) rfl rfl ?_
  first|refine aA_ (.pick rfl (fun _=>rfl) (fun _=>rfl)) rfl rfl ?_|refine aA_ (.pick rfl (fun _=>rfl) (fun h=>absurd h (by decide))) rfl rfl ?_|refine aA_ (.pick rfl (fun h=>absurd h (by decide)) (fun _=>rfl)) rfl rfl ?_
  refine o_0 (.move rfl) ?_
  first|refine ag_ rfl rfl rfl (.move rfl) rfl rfl ?_|refine au_ rfl rfl (by first|(simp[as_];done)|exact nofun) rfl rfl ?_
  first|refine ag_ rfl rfl rfl (.bin rfl rfl aU_) rfl rfl ?_|refine au_ rfl rfl (by first|(simp[as_];done)|exact nofun) rfl rfl ?_
  first|refine ag_ rfl rfl rfl (.move rfl) rfl rfl ?_|refine au_ rfl rfl (by first|(simp[as_];done)|exact nofun) rfl rfl ?_
  first|refine ag_ rfl rfl rfl (.move rfl) rfl rfl ?_|refine au_ rfl rfl (by first|(simp[as_];done)|exact nofun) rfl rfl ?_
  first|refine ag_ rfl rfl rfl (.bin rfl rfl a7_) rfl rfl ?_|refine au_ rfl rfl (by first|(simp[as_];done)|exact nofun) rfl rfl ?_
  first|refine ag_ rfl rfl rfl (.pick rfl (fun _=>rfl) (fun _=>rfl)) rfl rfl ?_|refine ag_ rfl rfl rfl (.pick rfl (fun _=>rfl) (fun h=>absurd h (by decide))) rfl rfl ?_|refine ag_ rfl rfl rfl (.pick rfl (fun h=>absurd h (by decide)) (fun _=>rfl)) rfl rfl ?_|refine au_ rfl rfl (by first|(simp[as_];done)|exact nofun) rfl rfl ?_
  first|refine aA_ (.pick rfl (fun _=>rfl) (fun _=>rfl)) rfl rfl ?_|refine aA_ (.pick rfl (fun _=>rfl) (fun h=>absurd h (by decide))) rfl rfl ?_|refine aA_ (.pick rfl (fun h=>absurd h (by decide)) (fun _=>rfl)) rfl rfl ?_
  refine al_ ?_;refine cT (r_c 2 (hw) ?_);refine a_z ?_;exact af_ (t_e (ad_ _))
 |true=>
 cases gb with
 |false=>
  refine ab_ (s_r 21 ?_);refine o_0 (.move rfl) ?_;refine o_0 (.un rfl cR_) ?_;refine o_0 (.move rfl) ?_
  first|refine ag_ rfl rfl rfl (.move rfl) rfl rfl ?_|refine au_ rfl rfl (by first|(simp[as_];done)|exact nofun) rfl rfl ?_
  first|refine ag_ rfl rfl rfl (.un rfl cR_) rfl rfl ?_|refine au_ rfl rfl (by first|(simp[as_];done)|exact nofun) rfl rfl ?_
  first|refine aA_ (.pick rfl (fun _=>rfl) (fun _=>rfl)) rfl rfl ?_|refine aA_ (.pick rfl (fun _=>rfl) (fun h=>absurd h (by decide))) rfl rfl ?_|refine aA_ (.pick rfl (fun h=>absurd h (by decide)) (fun _=>rfl)) rfl rfl ?_
  refine o_0 (.move rfl) ?_
  first|refine ag_ rfl rfl rfl (.load_l rfl rfl rfl TG.h TS.h (nle rfl)) rfl rfl ?_|refine ag_ rfl rfl rfl (.load_a rfl rfl TG.h TS.h (nle rfl)) rfl rfl ?_|refine au_ rfl rfl (by first|(simp[as_];done)|exact nofun) rfl rfl ?_
  first|refine ag_ rfl rfl rfl (.load_l rfl rfl rfl TG.h TS.h (nle rfl)) rfl rfl ?_|refine ag_ rfl rfl rfl (.load_a rfl rfl TG.h TS.h (nle rfl)) rfl rfl ?_|refine au_ rfl rfl (by first|(simp[as_];done)|exact nofun) rfl rfl ?_
  first|refine AR.op1y rfl rfl rfl (.buildSlice te_25.h TZ.h rfl (by decide) rfl rfl rfl (by first|(simp;done)|(simp[a4_,ofV];done)|rfl)) rfl rfl ?_|refine au_ rfl rfl (by first|(simp[as_];done)|exact nofun) rfl rfl ?_
  first|refine au_ rfl rfl (by first|(simp[as_];done)|exact nofun) rfl rfl ?_
  first|refine ag_ rfl rfl rfl (.un rfl cR_) rfl rfl ?_|refine au_ rfl rfl (by first|(simp[as_];done)|exact nofun) rfl rfl ?_
  first|refine aA_ (.pick rfl (fun _=>rfl) (fun _=>rfl)) rfl rfl ?_|refine aA_ (.pick rfl (fun _=>rfl) (fun h=>absurd h (by decide))) rfl rfl ?_|refine aA_ (.pick rfl (fun h=>absurd h (by decide)) (fun _=>rfl)) rfl rfl ?_
  refine o_0 (.move rfl) ?_
  first|refine ag_ rfl rfl rfl (.move rfl) rfl rfl ?_|refine au_ rfl rfl (by first|(simp[as_];done)|exact nofun) rfl rfl ?_
  first|refine ag_ rfl rfl rfl (.bin rfl rfl aU_) rfl rfl ?_|refine au_ rfl rfl (by first|(simp[as_];done)|exact nofun) rfl rfl ?_
  first|refine ag_ rfl rfl rfl (.move rfl) rfl rfl ?_|refine au_ rfl rfl (by first|(simp[as_];done)|exact nofun) rfl rfl ?_
  first|refine ag_ rfl rfl rfl (.move rfl) rfl rfl ?_|refine au_ rfl rfl (by first|(simp[as_];done)|exact nofun) rfl rfl ?_
  first|refine ag_ rfl rfl rfl (.bin rfl rfl a7_) rfl rfl ?_|refine au_ rfl rfl (by first|(simp[as_];done)|exact nofun) rfl rfl ?_
  first|refine ag_ rfl rfl rfl (.pick rfl (fun _=>rfl) (fun _=>rfl)) rfl rfl ?_|refine ag_ rfl rfl rfl (.pick rfl (fun _=>rfl) (fun h=>absurd h (by decide))) rfl rfl ?_|refine ag_ rfl rfl rfl (.pick rfl (fun h=>absurd h (by decide)) (fun _=>rfl)) rfl rfl ?_|refine au_ rfl rfl (by first|(simp[as_];done)|exact nofun) rfl rfl ?_
  first|refine aA_ (.pick rfl (fun _=>rfl) (fun _=>rfl)) rfl rfl ?_|refine aA_ (.pick rfl (fun _=>rfl) (fun h=>absurd h (by decide))) rfl rfl ?_|refine aA_ (.pick rfl (fun h=>absurd h (by decide)) (fun _=>rfl)) rfl rfl ?_
  refine al_ ?_;refine cT (r_c 2 (hw) ?_);refine a_z ?_;exact af_ (t_e (ad_ _))
 |true=>
 obtain⟨rfl,rfl,hkok⟩:=hkf rfl;obtain⟨rfl,rfl,hg40,hgt⟩:=hgf rfl;cases et:tameB [ar,br] 2 with
 |false=>
  rw[et] at ht;refine ab_ (s_r 21 ?_);refine a_3 ?_
  first|refine ag_ rfl rfl rfl (.move rfl) rfl rfl ?_|refine au_ rfl rfl (by first|(simp[as_];done)|exact nofun) rfl rfl ?_
  first|refine ag_ rfl rfl rfl (.un rfl cR_) rfl rfl ?_|refine au_ rfl rfl (by first|(simp[as_];done)|exact nofun) rfl rfl ?_
  refine a_2 ?_
  first|refine ag_ rfl rfl rfl (.load_l rfl rfl rfl TG.h TS.h (nle rfl)) rfl rfl ?_|refine ag_ rfl rfl rfl (.load_a rfl rfl TG.h TS.h (nle rfl)) rfl rfl ?_|refine au_ rfl rfl (by first|(simp[as_];done)|exact nofun) rfl rfl ?_
  first|refine ag_ rfl rfl rfl (.load_l rfl rfl rfl TG.h TS.h (nle rfl)) rfl rfl ?_|refine ag_ rfl rfl rfl (.load_a rfl rfl TG.h TS.h (nle rfl)) rfl rfl ?_|refine au_ rfl rfl (by first|(simp[as_];done)|exact nofun) rfl rfl ?_
  refine AR.op1y rfl rfl rfl (.buildSlice te_25.h TZ.h rfl (by decide) rfl rfl rfl (by simp[nuC])) rfl rfl ?_;refine AR.op1y rfl rfl rfl (.callS1 rfl rfl rfl (.shut rfl d_n (.keep (.nil))) rfl (ht)) rfl rfl ?_
  first|refine ag_ rfl rfl rfl (.un rfl cR_) rfl rfl ?_|refine au_ rfl rfl (by first|(simp[as_];done)|exact nofun) rfl rfl ?_
  first|refine aA_ (.pick rfl (fun _=>rfl) (fun _=>rfl)) rfl rfl ?_|refine aA_ (.pick rfl (fun _=>rfl) (fun h=>absurd h (by decide))) rfl rfl ?_|refine aA_ (.pick rfl (fun h=>absurd h (by decide)) (fun _=>rfl)) rfl rfl ?_
  refine o_0 (.move rfl) ?_
  first|refine ag_ rfl rfl rfl (.move rfl) rfl rfl ?_|refine au_ rfl rfl (by first|(simp[as_];done)|exact nofun) rfl rfl ?_
  first|refine ag_ rfl rfl rfl (.bin rfl rfl aU_) rfl rfl ?_|refine au_ rfl rfl (by first|(simp[as_];done)|exact nofun) rfl rfl ?_
  first|refine ag_ rfl rfl rfl (.move rfl) rfl rfl ?_|refine au_ rfl rfl (by first|(simp[as_];done)|exact nofun) rfl rfl ?_
  first|refine ag_ rfl rfl rfl (.move rfl) rfl rfl ?_|refine au_ rfl rfl (by first|(simp[as_];done)|exact nofun) rfl rfl ?_
  first|refine ag_ rfl rfl rfl (.bin rfl rfl a7_) rfl rfl ?_|refine au_ rfl rfl (by first|(simp[as_];done)|exact nofun) rfl rfl ?_
  first|refine ag_ rfl rfl rfl (.pick rfl (fun _=>rfl) (fun _=>rfl)) rfl rfl ?_|refine ag_ rfl rfl rfl (.pick rfl (fun _=>rfl) (fun h=>absurd h (by decide))) rfl rfl ?_|refine ag_ rfl rfl rfl (.pick rfl (fun h=>absurd h (by decide)) (fun _=>rfl)) rfl rfl ?_|refine au_ rfl rfl (by first|(simp[as_];done)|exact nofun) rfl rfl ?_
  first|refine aA_ (.pick rfl (fun _=>rfl) (fun _=>rfl)) rfl rfl ?_|refine aA_ (.pick rfl (fun _=>rfl) (fun h=>absurd h (by decide))) rfl rfl ?_|refine aA_ (.pick rfl (fun h=>absurd h (by decide)) (fun _=>rfl)) rfl rfl ?_
  refine al_ ?_;refine cT (r_c 2 (hw) ?_);refine a_z ?_;exact af_ (t_e (ad_ _))
 |true=>
 rw[et] at ht;by_cases hn8:8< n∧n≤40
 ·refine ab_ (s_r 21 ?_)
  refine a_3 ?_
  first|refine ag_ rfl rfl rfl (.move rfl) rfl rfl ?_|refine au_ rfl rfl (by first|(simp[as_];done)|exact nofun) rfl rfl ?_
  first|refine ag_ rfl rfl rfl (.un rfl cR_) rfl rfl ?_|refine au_ rfl rfl (by first|(simp[as_];done)|exact nofun) rfl rfl ?_
  refine a_2 ?_
  first|refine ag_ rfl rfl rfl (.load_l rfl rfl rfl TG.h TS.h (nle rfl)) rfl rfl ?_|refine ag_ rfl rfl rfl (.load_a rfl rfl TG.h TS.h (nle rfl)) rfl rfl ?_|refine au_ rfl rfl (by first|(simp[as_];done)|exact nofun) rfl rfl ?_
  first|refine ag_ rfl rfl rfl (.load_l rfl rfl rfl TG.h TS.h (nle rfl)) rfl rfl ?_|refine ag_ rfl rfl rfl (.load_a rfl rfl TG.h TS.h (nle rfl)) rfl rfl ?_|refine au_ rfl rfl (by first|(simp[as_];done)|exact nofun) rfl rfl ?_
  refine AR.op1y rfl rfl rfl (.buildSlice te_25.h TZ.h rfl (by decide) rfl rfl rfl (by simp[nuC])) rfl rfl ?_;refine AR.op1y rfl rfl rfl (.callS1 rfl rfl rfl (.shut rfl d_n (.keep (.nil))) rfl (ht)) rfl rfl ?_
  first|refine ag_ rfl rfl rfl (.un rfl cR_) rfl rfl ?_|refine au_ rfl rfl (by first|(simp[as_];done)|exact nofun) rfl rfl ?_
  refine a_2 ?_
  first|refine ag_ rfl rfl rfl (.move rfl) rfl rfl ?_|refine au_ rfl rfl (by first|(simp[as_];done)|exact nofun) rfl rfl ?_
  refine ag_ rfl rfl rfl (.bin rfl rfl (vT aU_ (decide_eq_true hn8.1))) rfl rfl ?_
  first|refine ag_ rfl rfl rfl (.move rfl) rfl rfl ?_|refine au_ rfl rfl (by first|(simp[as_];done)|exact nofun) rfl rfl ?_
  first|refine ag_ rfl rfl rfl (.move rfl) rfl rfl ?_|refine au_ rfl rfl (by first|(simp[as_];done)|exact nofun) rfl rfl ?_
  refine ag_ rfl rfl rfl (.bin rfl rfl (vT a7_ (decide_eq_true hn8.2))) rfl rfl ?_;refine a_z ?_;refine cT (r_c 2 (hw) ?_);refine a_z ?_;exact af_ (t_e (ad_ _))
 refine aP_ (fun _:Unit=>⟨[(4,i64 n),(6,bNu ar),(7,bNu br),(11,.arr (kE (keM l))),(12,.arr (keR (keM l))),(14,.arr (pE (nL gr))),(15,.arr (rE (rP (nL gr))))],[],1,115⟩) (fun _=>True) ?_ ?_;by_cases h8:8< n
 ·refine s_r 21 ?_
  refine a_3 ?_
  first|refine ag_ rfl rfl rfl (.move rfl) rfl rfl ?_|refine au_ rfl rfl (by first|(simp[as_];done)|exact nofun) rfl rfl ?_
  first|refine ag_ rfl rfl rfl (.un rfl cR_) rfl rfl ?_|refine au_ rfl rfl (by first|(simp[as_];done)|exact nofun) rfl rfl ?_
  refine a_2 ?_
  first|refine ag_ rfl rfl rfl (.load_l rfl rfl rfl TG.h TS.h (nle rfl)) rfl rfl ?_|refine ag_ rfl rfl rfl (.load_a rfl rfl TG.h TS.h (nle rfl)) rfl rfl ?_|refine au_ rfl rfl (by first|(simp[as_];done)|exact nofun) rfl rfl ?_
  first|refine ag_ rfl rfl rfl (.load_l rfl rfl rfl TG.h TS.h (nle rfl)) rfl rfl ?_|refine ag_ rfl rfl rfl (.load_a rfl rfl TG.h TS.h (nle rfl)) rfl rfl ?_|refine au_ rfl rfl (by first|(simp[as_];done)|exact nofun) rfl rfl ?_
  refine AR.op1y rfl rfl rfl (.buildSlice te_25.h TZ.h rfl (by decide) rfl rfl rfl (by simp[nuC])) rfl rfl ?_;refine AR.op1y rfl rfl rfl (.callS1 rfl rfl rfl (.shut rfl d_n (.keep (.nil))) rfl (ht)) rfl rfl ?_
  first|refine ag_ rfl rfl rfl (.un rfl cR_) rfl rfl ?_|refine au_ rfl rfl (by first|(simp[as_];done)|exact nofun) rfl rfl ?_
  refine a_2 ?_
  first|refine ag_ rfl rfl rfl (.move rfl) rfl rfl ?_|refine au_ rfl rfl (by first|(simp[as_];done)|exact nofun) rfl rfl ?_
  refine ag_ rfl rfl rfl (.bin rfl rfl (vT aU_ (decide_eq_true h8))) rfl rfl ?_
  first|refine ag_ rfl rfl rfl (.move rfl) rfl rfl ?_|refine au_ rfl rfl (by first|(simp[as_];done)|exact nofun) rfl rfl ?_
  first|refine ag_ rfl rfl rfl (.move rfl) rfl rfl ?_|refine au_ rfl rfl (by first|(simp[as_];done)|exact nofun) rfl rfl ?_
  refine ag_ rfl rfl rfl (.bin rfl rfl (vF a7_ (decide_eq_false (by omega)))) rfl rfl ?_;refine a_z ?_;refine cF (ah_ (⟨(),trivial,?_⟩));exact s_x [] (fun hs=>e_52) (fun hs=>e_53)
 ·refine s_r 21 ?_
  refine a_3 ?_
  first|refine ag_ rfl rfl rfl (.move rfl) rfl rfl ?_|refine au_ rfl rfl (by first|(simp[as_];done)|exact nofun) rfl rfl ?_
  first|refine ag_ rfl rfl rfl (.un rfl cR_) rfl rfl ?_|refine au_ rfl rfl (by first|(simp[as_];done)|exact nofun) rfl rfl ?_
  refine a_2 ?_
  first|refine ag_ rfl rfl rfl (.load_l rfl rfl rfl TG.h TS.h (nle rfl)) rfl rfl ?_|refine ag_ rfl rfl rfl (.load_a rfl rfl TG.h TS.h (nle rfl)) rfl rfl ?_|refine au_ rfl rfl (by first|(simp[as_];done)|exact nofun) rfl rfl ?_
  first|refine ag_ rfl rfl rfl (.load_l rfl rfl rfl TG.h TS.h (nle rfl)) rfl rfl ?_|refine ag_ rfl rfl rfl (.load_a rfl rfl TG.h TS.h (nle rfl)) rfl rfl ?_|refine au_ rfl rfl (by first|(simp[as_];done)|exact nofun) rfl rfl ?_
  refine AR.op1y rfl rfl rfl (.buildSlice te_25.h TZ.h rfl (by decide) rfl rfl rfl (by simp[nuC])) rfl rfl ?_;refine AR.op1y rfl rfl rfl (.callS1 rfl rfl rfl (.shut rfl d_n (.keep (.nil))) rfl (ht)) rfl rfl ?_
  first|refine ag_ rfl rfl rfl (.un rfl cR_) rfl rfl ?_|refine au_ rfl rfl (by first|(simp[as_];done)|exact nofun) rfl rfl ?_
  refine a_2 ?_
  first|refine ag_ rfl rfl rfl (.move rfl) rfl rfl ?_|refine au_ rfl rfl (by first|(simp[as_];done)|exact nofun) rfl rfl ?_
  refine ag_ rfl rfl rfl (.bin rfl rfl (vF aU_ (decide_eq_false h8))) rfl rfl ?_;refine a_z ?_;refine cF (ah_ (⟨(),trivial,?_⟩));exact s_x [] (fun hs=>e_52) (fun hs=>e_53)
 rintro _ _
 have hab:okR [ar,br]:=fun r hr=>by
  simp only[List.mem_cons,List.not_mem_nil,or_false] at hr;rcases hr with rfl|rfl
  exact ha;exact hb
 obtain⟨bn,_⟩:=kf_ et hab;have qa:qs (nV ar)≤20:=bn _ (by simp[nL]);have qb:qs (nV br)≤20:=bn _ (by simp[nL]);have b1:=kX_ ar.1 ar.2.1 ar.2.2 ha.1 ha.2.1 ha.2.2;have b2:=kX_ br.1 br.2.1 br.2.2 hb.1 hb.2.1 hb.2.2;have hglen:(nL gr).length≤40:=by simpa[nL] using hg40
 have hgtame:degP (nL gr)≤20→bdL (nL gr) 20∧(nL gr).length≤5:=fun h=>by
  rcases hgt with h1|h1
  exact kf_ h1 hg;omega
 obtain⟨f1,f2,f3⟩:=ke_facts ho hkok;have f2b:∀p∈keM l,p.1.length≤1099511627776∧p.2.length≤1099511627776:=fun p hp=>by have:=f2 p hp;omega
 have hbad:=fs_bad11 (keM l) (nL gr) f1 (fun p hp=>by have:=f2 p hp;omega) (by omega);change qs (numV ar.1 ar.2.1 ar.2.2)≤20 at qa;change qs (numV br.1 br.2.1 br.2.2)≤20 at qb;generalize nL gr=g at *
 generalize keM l=k at *
 refine r_c 9 (b1) ?_;refine a_z ?_;refine r_c 9 (b2) ?_;refine a_z ?_;generalize numV ar.1 ar.2.1 ar.2.2=a at *
 generalize numV br.1 br.2.1 br.2.2=L at *
 refine AWp.ent (st':=⟨[(4,i64 n),(11,.arr (kE k)),(12,.arr (keR k)),(14,.arr (pE g)),(15,.arr (rE (rP g))),(17,bQ a),(18,bRq a),(19,bQ L),(20,bRq L)],[],1,115⟩) ?_ ?_;refine s_x [] (fun hs=>?_) (fun hs=>?_)
 ·repeat' (first|exact aH_|refine ap_ rfl ?_ ?_|exact ak_ hs (aE_ _)|exact ak_ hs (a1_ _)|exact Cv.boxp hs rfl (aK_ rfl) rfl (aR_ _)|exact Cv.boxp hs rfl (aK_ rfl) rfl (b8_ _)|exact au_c)
 ·repeat' (first|exact az_|refine h_c ?_ ?_|exact au_e|refine av_ ?_|exact an_|refine ai_ ?_ ?_|exact ak_ hs (aE_ _)|exact ak_ hs (a1_ _)|exact Cv.boxp hs rfl (aK_ rfl) rfl (aR_ _)|exact Cv.boxp hs rfl (aK_ rfl) rfl (b8_ _)|exact au_c)
 cases eb:(!vaB k||decide (20< degP g)) with
 |true=>
  rw[eb] at hbad
  have hS:=pT_ k L g a n (by
   rw[Bool.or_eq_true] at eb;rcases eb with h|h
   exact .inl (by simpa using h);exact .inr (of_decide_eq_true h)) f1 f2b (by omega)
  refine r_c 12 (hS) ?_;refine a_z ?_;refine r_z 1 ?_;refine ab_ (r_c 3 (hbad) ?_);refine al_ ?_;refine cT (r_m 1 ?_);refine a_z ?_;refine ab_ (s_r 2 ?_);refine a_1 ?_;refine o_0 (.bin rfl rfl (vT bF_ (rfl))) ?_;refine al_ ?_;refine cT (s_r 12 ?_);refine a_2 ?_;refine o_0 (.bin rfl rfl (vT a3_ (rfl))) ?_;refine a_1 ?_
  first|refine ag_ rfl rfl rfl (.move rfl) rfl rfl ?_|refine au_ rfl rfl (by first|(simp[as_];done)|exact nofun) rfl rfl ?_
  first|refine ag_ rfl rfl rfl (.lenD rfl rfl rfl rfl te_33.h) rfl rfl ?_|refine ag_ rfl rfl rfl (.lenI rfl rfl rfl rfl te_33.h) rfl rfl ?_|refine ag_ rfl rfl rfl (.lenP rfl rfl rfl rfl te_33.h) rfl rfl ?_|refine ag_ rfl rfl rfl (.lenC rfl rfl rfl rfl te_33.h) rfl rfl ?_|refine ag_ rfl rfl rfl (.lenR rfl rfl rfl rfl te_33.h) rfl rfl ?_|refine ag_ rfl rfl rfl (.len rfl rfl rfl rfl rfl te_33.h) rfl rfl ?_|refine au_ rfl rfl (by first|(simp[as_];done)|exact nofun) rfl rfl ?_
  refine ag_ rfl rfl rfl (.bin rfl rfl (vT a3_ (rfl))) rfl rfl ?_;refine c_s (hw) ?_;refine a_z ?_;exact af_ (t_e (ad_ _))
 |false=>
 rw[eb] at hbad;rw[Bool.or_eq_false_iff] at eb;have hva:vaB k=true:=by simpa using eb.1
 have hdg:degP g≤20:=by have:=of_decide_eq_false eb.2;omega
 obtain⟨v1,v2,v3⟩:=f3 hva;obtain⟨bg,lg⟩:=hgtame hdg;by_cases hout:n< 0∨40< n;have hS:=pS_ k L g a n (rg_ hva f2b) hdg (by omega) hout;refine r_c 12 (hS) ?_;refine a_z ?_;refine r_z 1 ?_;refine ab_ (r_c 3 (hbad) ?_);refine al_ ?_;refine cF ?_;by_cases h0:n< 0
 ·refine s_r 6 ?_
  refine a_1 ?_;refine o_0 (.bin rfl rfl (vT a6_ (decide_eq_true h0))) ?_;refine a_z ?_;refine cT (r_m 1 ?_);refine a_z ?_;refine ab_ (s_r 2 ?_);refine a_1 ?_;refine o_0 (.bin rfl rfl (vT bF_ (rfl))) ?_;refine al_ ?_;refine cT (s_r 12 ?_);refine a_2 ?_;refine o_0 (.bin rfl rfl (vT a3_ (rfl))) ?_;refine a_1 ?_
  first|refine ag_ rfl rfl rfl (.move rfl) rfl rfl ?_|refine au_ rfl rfl (by first|(simp[as_];done)|exact nofun) rfl rfl ?_
  first|refine ag_ rfl rfl rfl (.lenD rfl rfl rfl rfl te_33.h) rfl rfl ?_|refine ag_ rfl rfl rfl (.lenI rfl rfl rfl rfl te_33.h) rfl rfl ?_|refine ag_ rfl rfl rfl (.lenP rfl rfl rfl rfl te_33.h) rfl rfl ?_|refine ag_ rfl rfl rfl (.lenC rfl rfl rfl rfl te_33.h) rfl rfl ?_|refine ag_ rfl rfl rfl (.lenR rfl rfl rfl rfl te_33.h) rfl rfl ?_|refine ag_ rfl rfl rfl (.len rfl rfl rfl rfl rfl te_33.h) rfl rfl ?_|refine au_ rfl rfl (by first|(simp[as_];done)|exact nofun) rfl rfl ?_
  refine ag_ rfl rfl rfl (.bin rfl rfl (vT a3_ (rfl))) rfl rfl ?_;refine c_s (hw) ?_;refine a_z ?_;exact af_ (t_e (ad_ _))
 ·refine s_r 6 ?_
  refine a_1 ?_;refine o_0 (.bin rfl rfl (vF a6_ (decide_eq_false h0))) ?_;refine a_1 ?_
  first|refine ag_ rfl rfl rfl (.move rfl) rfl rfl ?_|refine au_ rfl rfl (by first|(simp[as_];done)|exact nofun) rfl rfl ?_
  refine ag_ rfl rfl rfl (.bin rfl rfl (vT aU_ (decide_eq_true (by omega)))) rfl rfl ?_;refine a_z ?_;refine cT (r_m 1 ?_);refine a_z ?_;refine ab_ (s_r 2 ?_);refine a_1 ?_;refine o_0 (.bin rfl rfl (vT bF_ (rfl))) ?_;refine al_ ?_;refine cT (s_r 12 ?_);refine a_2 ?_;refine o_0 (.bin rfl rfl (vT a3_ (rfl))) ?_;refine a_1 ?_
  first|refine ag_ rfl rfl rfl (.move rfl) rfl rfl ?_|refine au_ rfl rfl (by first|(simp[as_];done)|exact nofun) rfl rfl ?_
  first|refine ag_ rfl rfl rfl (.lenD rfl rfl rfl rfl te_33.h) rfl rfl ?_|refine ag_ rfl rfl rfl (.lenI rfl rfl rfl rfl te_33.h) rfl rfl ?_|refine ag_ rfl rfl rfl (.lenP rfl rfl rfl rfl te_33.h) rfl rfl ?_|refine ag_ rfl rfl rfl (.lenC rfl rfl rfl rfl te_33.h) rfl rfl ?_|refine ag_ rfl rfl rfl (.lenR rfl rfl rfl rfl te_33.h) rfl rfl ?_|refine ag_ rfl rfl rfl (.len rfl rfl rfl rfl rfl te_33.h) rfl rfl ?_|refine au_ rfl rfl (by first|(simp[as_];done)|exact nofun) rfl rfl ?_
  refine ag_ rfl rfl rfl (.bin rfl rfl (vT a3_ (rfl))) rfl rfl ?_;refine c_s (hw) ?_;refine a_z ?_;exact af_ (t_e (ad_ _))
 obtain⟨m,hm⟩:∃m:Nat,n=(m:Int):=⟨n.toNat,by omega⟩;subst hm;have hm8:m≤8:=by omega
 have hok:=mJ_ (k:=k) (l:=L) (g:=g) (a:=a) (n:=m) (by omega) v1 v2 v3 lg bg qb qa;have hS:=l6_ k L g a m (by omega) hok;have hR:=pI_ k g L a m hm8 v1 v2 v3 lg bg qb qa;have hsl:=is_ (mvK a k) (compP [a,1] g) L m (m+1);have hsz:=se_bd (k:=k) (l:=L) (g:=g) (a:=a) (n:=m) (by omega) v1 v2 v3 lg bg qb qa;have hE:=fs_SameP (seK (mvK a k) (compP [a,1] g) L m (m+1)) (rP (trimQ (rsS k g L a m (m+1)))) (cF_ _) (by rw[vR_rP,ir_];exact trim_se _ _ _ _ _) hsz (by rw[ir_,cC_];omega);refine r_c 12 (hS) ?_;refine a_z ?_;refine r_z 1 ?_;refine ab_ (r_c 3 (hbad) ?_);refine al_ ?_;refine cF (s_r 6 ?_);refine a_1 ?_;refine o_0 (.bin rfl rfl (vF a6_ (decide_eq_false (by omega)))) ?_;refine a_1 ?_
 first|refine ag_ rfl rfl rfl (.move rfl) rfl rfl ?_|refine au_ rfl rfl (by first|(simp[as_];done)|exact nofun) rfl rfl ?_
 refine ag_ rfl rfl rfl (.bin rfl rfl (vF aU_ (decide_eq_false (by omega)))) rfl rfl ?_;refine a_z ?_;refine cF (ah_ (ab_ (s_r 2 ?_)));refine a_1 ?_;refine o_0 (.bin rfl rfl (vF bF_ (rfl))) ?_;refine al_ ?_;refine cF (ah_ (s_r 16 ?_));refine a_1 ?_;refine o_0 (.bin rfl rfl (vT a3_ (rfl))) ?_;refine c_s (hR) ?_;refine c_s (hE) ?_;refine c_s (hw) ?_;refine a_z ?_;exact af_ (t_e (ad_ _))
end Go.Proofs.YtjkddcfoolilbaaGreatDoor
namespace Go.Proofs.YtjkddcfoolilbaaGreatDoor
open Go.Abs Go.Deep Go.RowKit
set_option maxRecDepth 20000
theorem rvlen{W:World}{l:List NRow}{v:Value}(h:RV (fun _=>False) (fun _=>none) W (.arr (nR l)) v):l.length≤9223372036854775807:=by
 obtain⟨_,_,_,hle,hcap,_⟩:=h;have h1:(nR l).length=l.length:=by simp[nR]
 have hm:maxLen=9223372036854775807:=by decide
 omega
theorem tySt:(Tryz.prog).underlying 22=some (.slice 93):=by kernel_rfl
def twF:Array Field:= #[{name:= "A",type:=25,offset:=0,embedded:=false,tag:= "",pkgPath:= "",byteOffset:=0},{name:= "B",type:=25,offset:=1,embedded:=false,tag:= "",pkgPath:= "",byteOffset:=24}]
theorem tyTw:(Tryz.prog).underlying 93=some (.struct twF):=by kernel_rfl
theorem tycTw:(Tryz.prog).cellsOf 93=2:=by kernel_rfl
theorem tycS2:(Tryz.prog).cellsOf 25=1:=by kernel_rfl
theorem two_of{H:Type}{enc:TypeId×Value→H}{W:World}{n:Nat}{cs:List Value}{x:DataW H×List MemPlace}(h:DataW.trod enc Tryz.prog W 0 (fun _=>true) true n 93 cs=some x):
    ∃(t:TRow) (c0 c1:Value),okT2 t∧cs=[c0,c1]∧RV (fun _=>False) (fun _=>none) W (.arr (nR t.1)) c0∧RV (fun _=>False) (fun _=>none) W (.arr (nR t.2)) c1:=by
 obtain⟨ys,m,_,_,hl,hlen,hg⟩:=DataW.trod_struct tyTw h;rw[tycTw] at hl
 match cs,hl,ys,hlen with
 |[c0,c1],_,[y0,y1],_=>
  have g0:DataW.trod enc Tryz.prog W 0 (fun _=>true) true m 25 (([c0,c1].drop 0).take ((Tryz.prog).cellsOf 25))=some y0:=hg 0 _ rfl;have g1:DataW.trod enc Tryz.prog W 0 (fun _=>true) true m 25 (([c0,c1].drop 1).take ((Tryz.prog).cellsOf 25))=some y1:=hg 1 _ rfl;rw[tycS2] at g0 g1;simp only[List.drop,List.take] at g0 g1
  have hs0:∃a len cap,c0= .slice a len cap:=by
   rcases open_slice tyS g0 with⟨e5,_⟩|⟨a,len,cap,_,_,_,_,e5,_⟩
   simp at e5;exact⟨_,_,_,e5⟩;simp at e5;exact⟨_,_,_,e5⟩
  have hs1:∃a len cap,c1= .slice a len cap:=by
   rcases open_slice tyS g1 with⟨e5,_⟩|⟨a,len,cap,_,_,_,_,e5,_⟩
   simp at e5;exact⟨_,_,_,e5⟩;simp at e5;exact⟨_,_,_,e5⟩
  obtain⟨a,len,cap,rfl⟩:=hs0;obtain⟨a',len',cap',rfl⟩:=hs1;have hT0:DataW.Trod enc Tryz.prog W 0 (fun _=>true) true 25 (.slice a len cap) y0.1 y0.2:=⟨m,by simpa[Value.cells] using g0⟩;have hT1:DataW.Trod enc Tryz.prog W 0 (fun _=>true) true 25 (.slice a' len' cap') y1.1 y1.2:=⟨m,by simpa[Value.cells] using g1⟩;obtain⟨m0,hm0,r0⟩:=mW_ hT0;obtain⟨m1,hm1,r1⟩:=mW_ hT1;have hm:maxLen=9223372036854775807:=by decide
  have k0:m0.length≤9223372036854775807:=by
   obtain⟨_,_,e',hle,hcap,_⟩:=r0;have:(nR m0).length=m0.length:=by simp[nR]
   omega
  have k1:m1.length≤9223372036854775807:=by
   obtain⟨_,_,e',hle,hcap,_⟩:=r1;have:(nR m1).length=m1.length:=by simp[nR]
   omega
  exact⟨(m0,m1),_,_,⟨⟨hm0,hm1⟩,k0,k1⟩,rfl,r0,r1⟩
theorem twP_of{H:Type}{enc:TypeId×Value→H}{W:World}{a:Option Addr}{len cap:Nat}{d:DataW H}{ps:List MemPlace}(h:DataW.Trod enc Tryz.prog W 0 (fun _=>true) true 22 (.slice a len cap) d ps):
    ∃l:List TRow,((∀t∈l,okT2 t)∧l.length≤9223372036854775807)∧RV (fun _=>False) (fun _=>none) W (.arr (twR l)) (.slice a len cap):=by
 obtain⟨fuel,hf⟩:=h;rcases open_slice tySt hf with⟨hcs,_⟩|⟨x,len',cap',m,n,D,Pl,hcs,_,hl,hm,hmm,_,hx⟩
 simp[Value.cells] at hcs;obtain⟨rfl,rfl,rfl⟩:=hcs;exact⟨[],⟨(fun r hr=>by cases hr),by simp⟩,none,0,rfl,Nat.le_refl _,by decide,.inl rfl⟩;simp[Value.cells] at hcs;obtain⟨rfl,rfl,rfl⟩:=hcs;simp only[if_true] at hmm;have hmc:m=cap:=hmm;rw[hmc] at hx;rw[tycTw] at hx
 have hx':∀i,i< len→∃r:TRow×Value×Value,okT2 r.1∧W.cells? 0 (x.add (i* 2)) 2=some [r.2.1,r.2.2]∧RV (fun _=>False) (fun _=>none) W (.arr (nR r.1.1)) r.2.1∧RV (fun _=>False) (fun _=>none) W (.arr (nR r.1.2)) r.2.2:=fun i hi=>by
  obtain⟨cs',g1,g2⟩:=hx i (by omega);obtain⟨t,c0,c1,r1,e,r2,r3⟩:=two_of g2;exact⟨(t,c0,c1),r1,by rw[g1,e],r2,r3⟩
 obtain⟨R,hR⟩:=choose_lt (α:=TRow×Value×Value) hx';have hmx:maxLen=9223372036854775807:=by decide
 refine⟨(List.range len).map fun i=>(R i).1,⟨?_,by simp;omega⟩,some x,cap,by simp[twR],by simpa[twR] using hl,hm,?_⟩;intro r hr;obtain⟨i,hi,rfl⟩:=List.mem_map.1 hr;exact(hR i (List.mem_range.1 hi)).1;by_cases h0:len=0;subst h0;exact .inl rfl;right
 have c:∀i,i< len→∀j (v:Value),[(R i).2.1,(R i).2.2][j]?=some v→W.cell? (x.add (i* 2+j))=some v:=fun i hi j v hv=>by
  have hj:j< 2:=by
   have:=(List.getElem?_eq_some_iff.1 hv).1;simpa using this
  have:=(World.cells?_some (hR i hi).2.1).2.2 j hj;rw[hv,Go.Deep.add_add] at this;exact this
 have c0:=c 0 (by omega) 0 _ rfl;obtain⟨b,off,spot⟩:=x;have hspot:spot=none:=by simpa[Addr.add] using World.cell?_spot c0
 subst hspot
 have hadd:∀k,Addr.add ⟨b,off,none⟩ k=⟨b,off+k,none⟩:=fun k=>by
  unfold Addr.add;by_cases hk:k=0;simp[hk];simp[hk]
 refine⟨b,off,2,rfl,hy_ (by rw[hadd] at c0;exact c0),(fun h=>h),?_⟩;have:=st_ (M:=fun _=>False) (β:=fun _=>none) (w:=W) (b:=b) (s:=2) (off:=off) (f:=fun i=>twC (R i).1) len 0 (fun i hi=>⟨rfl,?_⟩);rw[Nat.zero_mul,Nat.add_zero,←List.range_eq_range'] at this;rw[twR,List.map_map];exact this;have hi':i< len:=by omega
 obtain⟨_,_,r2,r3⟩:=hR i hi';refine⟨⟨_,?_,r2⟩,⟨_,?_,r3⟩,trivial⟩;have:=c i hi' 0 _ rfl;rw[hadd] at this;exact this;have:=c i hi' 1 _ rfl;rw[hadd] at this;rw[Nat.add_assoc];exact this
end Go.Proofs.YtjkddcfoolilbaaGreatDoor
namespace Go.Proofs.YtjkddcfoolilbaaGreatDoor
open Go.Abs Go.Deep Go.RowKit Go.WideShapes
set_option maxRecDepth 20000
theorem tyu3:(Tryz.prog).underlying 3=some (.int .i64):=by kernel_rfl
theorem intP_of{H:Type}{enc:TypeId×Value→H}{W:World}{base:Nat}{v:Value}{d:DataW H}{ps:List MemPlace}(hv:Value.okWide Tryz.prog W .any base 3 v)(h:DataW.Trod enc Tryz.prog W 0 (fun _=>true) true 3 v d ps):
    ∃r:Int,i64r r∧RV (fun _=>False) (fun _=>none) W (i64 r) v:=by
 obtain⟨n,rfl⟩:∃n,v= .int .i64 n:=by
  unfold Value.okWide at hv;rw[tyu3] at hv;cases v with
  |int k n=>obtain⟨rfl,_⟩:=hv;exact⟨n,rfl⟩
  |_=>exact False.elim hv
 obtain⟨fuel,hf⟩:=h;obtain⟨n0,e0,_,w0⟩:=DataW.trod_int tyu3 hf;have e:n=n0:=by simpa[Value.cells] using e0
 subst e;exact⟨n,bounds_i64 w0,rfl⟩
end Go.Proofs.YtjkddcfoolilbaaGreatDoor
namespace Go.Proofs.YtjkddcfoolilbaaGreatDoor
open Go
def mkF(P:Program)(fn:Func)(c:OpenClaim):Bool:=(P.make==some c.make) && (c.kinds==(if c.domain.isEmpty then [] else fn.params.toList.map fun t=>match P.underlying t with|some (.int k)=>some k|_=>none)) && (c.pinned==c.pinnedBy)
section
variable {P:Program}{f:FuncId}{fn:Func}{s:ChangeSpec}{c:OpenClaim}
theorem rF_ (h1:c.wf (OpenSpec.ofChange s)=true) (h2:laidOutB P=true) (h3:mapsRowed P=true)
    (h4:fn.params.all (P.readableRec ·)=true) (h5:namedTie P c.named s.vars=true)
    (h6:((c.stops==[]) && (P.stops==[]) && (c.knobs==[]) && (P.stopKnobs==[]))=true)
    (h7:(c.inPlace==P.inPlace f)=true) (h8:(c.unfollowed==P.unfollowed f)=true) (h9:(c.recurses==P.recurses f)=true) (h10:(c.named==P.varsNamed f)=true)
    (h11:((c.maps==(fn.params.toList++s.plain.varTypes P).any (P.mapsRec ·)) && (c.ifaces==(fn.params.toList++s.plain.varTypes P).any (P.ifacesRec ·)) && (c.mapsOut==P.mapsAmong fn.resultTypes.toList))=true)
    (h12:((c.loops==(fn.params.toList++s.plain.varTypes P).any (P.loopsFrom ·)) && (c.wideKeys==(fn.params.toList++s.plain.varTypes P++fn.resultTypes.toList).any (P.wideKeysFrom ·)))=true)
    (h13:(s.vars.all (P.varReadable ·) && fn.resultTypes.all (fun t=>P.readableRec t && decide (t< P.types.size)) && (c.ifacesOut==fn.resultTypes.toList.any (P.ifacesRec ·)) && (c.loopsOut==fn.resultTypes.toList.any (P.loopsFrom ·)) && (c.plainKeys==P.plainKeys) && c.shortTexts.isNone)=true)
    (h14:P.stopsHeard=true) (h15:P.mayEnter=true) (h16:(c.lifted==P.liftsFinal)=true)
    (h17:mkF P fn c=true)
    (h18:((c.veiled==(fn.params.toList++s.plain.varTypes P++fn.resultTypes.toList).any (P.veiledRec ·)) && c.veiledFits P fn.params.toList (fn.params.toList++s.plain.varTypes P++fn.resultTypes.toList))=true):
    joinedFacts P f fn s c=true:=by
 unfold mkF at h17;simp only[Bool.and_eq_true] at h6 h11 h12 h13 h17 h18;simp only[joinedFacts,Bool.and_eq_true]
 and_intros
 all_goals first|assumption|exact h6.1.1.1|exact h6.1.1.2|exact h6.1.2|exact h6.2|exact h11.1.1|exact h11.1.2|exact h11.2|exact h12.1|exact h12.2|exact h13.1.1.1.1.1|exact h13.1.1.1.1.2|exact h13.1.1.1.2|exact h13.1.1.2|exact h13.1.2|exact h13.2|exact h17.1.1|exact h17.1.2|exact h17.2|exact h18.1|exact h18.2
end
theorem kc_:laidOutB Tryz.prog=true:=by kernel_rfl
theorem all_mr:mapsRowed Tryz.prog=true:=by kernel_rfl
theorem all_sh:Tryz.prog.stopsHeard=true:=by kernel_rfl
theorem all_me:Tryz.prog.mayEnter=true:=by kernel_rfl
theorem all_lk:false=Tryz.prog.looks []:=by kernel_rfl
theorem all_mi:Tryz.prog.mainIs=some (true,("a2e722255ea34bf564eb212ae9a05d01d730f7efd93abc3b2089f3194f63ef81" :String).toList):=by kernel_rfl
theorem all_lf:Tryz.prog.liftsFinal=Rows.equationSeriesRow.lifted:=by kernel_rfl
theorem g7_:Rows.equationSeriesRow.wf (OpenSpec.ofChange Rows.equationSeriesSpec)=true:=by kernel_rfl
theorem hd_:Tryz.f3.params.all (Tryz.prog.readableRec ·)=true:=by kernel_rfl
theorem hf_:namedTie Tryz.prog Rows.equationSeriesRow.named Rows.equationSeriesSpec.vars=true:=by kernel_rfl
theorem hc_:((Rows.equationSeriesRow.stops==[]) && (Tryz.prog.stops==[]) && (Rows.equationSeriesRow.knobs==[]) && (Tryz.prog.stopKnobs==[]))=true:=by kernel_rfl
theorem hl_:(Rows.equationSeriesRow.inPlace==Tryz.prog.inPlace 3)=true:=by kernel_rfl
theorem hb_:(Rows.equationSeriesRow.unfollowed==Tryz.prog.unfollowed 3)=true:=by kernel_rfl
theorem he_:(Rows.equationSeriesRow.recurses==Tryz.prog.recurses 3)=true:=by kernel_rfl
theorem g9_:(Rows.equationSeriesRow.named==Tryz.prog.varsNamed 3)=true:=by kernel_rfl
theorem hg_:((Rows.equationSeriesRow.maps==(Tryz.f3.params.toList++Rows.equationSeriesSpec.plain.varTypes Tryz.prog).any (Tryz.prog.mapsRec ·)) && (Rows.equationSeriesRow.ifaces==(Tryz.f3.params.toList++Rows.equationSeriesSpec.plain.varTypes Tryz.prog).any (Tryz.prog.ifacesRec ·)) && (Rows.equationSeriesRow.mapsOut==Tryz.prog.mapsAmong Tryz.f3.resultTypes.toList))=true:=by kernel_rfl
theorem hi_:((Rows.equationSeriesRow.loops==(Tryz.f3.params.toList++Rows.equationSeriesSpec.plain.varTypes Tryz.prog).any (Tryz.prog.loopsFrom ·)) && (Rows.equationSeriesRow.wideKeys==(Tryz.f3.params.toList++Rows.equationSeriesSpec.plain.varTypes Tryz.prog++Tryz.f3.resultTypes.toList).any (Tryz.prog.wideKeysFrom ·)))=true:=by kernel_rfl
theorem g8_:(Rows.equationSeriesSpec.vars.all (Tryz.prog.varReadable ·) && Tryz.f3.resultTypes.all (fun t=>Tryz.prog.readableRec t && decide (t< Tryz.prog.types.size)) && (Rows.equationSeriesRow.ifacesOut==Tryz.f3.resultTypes.toList.any (Tryz.prog.ifacesRec ·)) && (Rows.equationSeriesRow.loopsOut==Tryz.f3.resultTypes.toList.any (Tryz.prog.loopsFrom ·)) && (Rows.equationSeriesRow.plainKeys==Tryz.prog.plainKeys) && Rows.equationSeriesRow.shortTexts.isNone)=true:=by kernel_rfl
theorem ha_:((Rows.equationSeriesRow.veiled==(Tryz.f3.params.toList++Rows.equationSeriesSpec.plain.varTypes Tryz.prog++Tryz.f3.resultTypes.toList).any (Tryz.prog.veiledRec ·)) && Rows.equationSeriesRow.veiledFits Tryz.prog Tryz.f3.params.toList (Tryz.f3.params.toList++Rows.equationSeriesSpec.plain.varTypes Tryz.prog++Tryz.f3.resultTypes.toList))=true:=by kernel_rfl
theorem g5_:Rows.equationSeriesRow.wfByText (OpenSpec.ofChange Rows.equationSeriesSpec)=true:=by kernel_rfl
theorem hm_:false=Rows.equationSeriesRow.goesBy Tryz.prog:=by kernel_rfl
theorem equationSeries_fn:Tryz.prog.funcNamed Rows.equationSeriesRow.func=some 3:=by kernel_rfl
theorem hk_:decide (Tryz.f3.isInstance Tryz.prog Rows.equationSeriesRow.origin Rows.equationSeriesRow.targs)=true:=by kernel_rfl
theorem g6_:(Tryz.f3.params.toList.all fun u=>!Tryz.prog.wantsStandIn u)=true:=by kernel_rfl
theorem hh_:mkF Tryz.prog Tryz.f3 Rows.equationSeriesRow=true:=by kernel_rfl
theorem hj_:(Rows.equationSeriesRow.lifted==Tryz.prog.liftsFinal)=true:=by rw[all_lf];kernel_rfl
theorem fe_:joinedFacts Tryz.prog 3 Tryz.f3 Rows.equationSeriesSpec Rows.equationSeriesRow=true:=
 rF_ g7_ kc_ all_mr hd_ hf_ hc_ hl_ hb_ he_ g9_ hg_ hi_ g8_ all_sh all_me hj_ hh_ ha_
theorem f9_:Tryz.f3.isWrapper Tryz.prog Rows.equationSeriesRow.wrapper Rows.equationSeriesRow.mainSum:=by
 unfold Func.isWrapper;first|(rw[if_pos (by decide+kernel)];kernel_rfl)|(rw[if_neg (by decide+kernel)];exact⟨rfl,rfl⟩)
end Go.Proofs.YtjkddcfoolilbaaGreatDoor
namespace Go.Proofs.YtjkddcfoolilbaaGreatDoor
open Go.Abs Go.RowKit
theorem tab_glb:(Tryz.prog).globalNamed "internal/strconv.uint64pow10" =some GT:=by kernel_rfl
theorem tab_of{n1 n2:String}{a b:DataW Unit}{W:World}(h:laidMet Tryz.prog [(n1,a),(n2,b),("internal/strconv.uint64pow10",Lib.tabData .u64 Lib.pow10Tab)] W):TabW W:=by
 obtain⟨ps,⟨g1,t1,c1,u1,p1,q1,_,_,_,_,⟨g2,t2,c2,u2,p2,q2,_,_,_,_,⟨g,t,cs,fuel,p,q,hg,ht,hv,hd,_,_⟩,_⟩,_⟩,_,_⟩:=h;obtain rfl:=Option.some.inj (tab_glb.symm.trans hg);have hT:((Tryz.prog).globals[GT]?).map (·.type)=some 315:=by kernel_rfl
 have hu:(Tryz.prog).underlying 315=some (.array 20 205):=by kernel_rfl
 have he:(Tryz.prog).underlying 205=some (.int .u64):=by kernel_rfl
 have hce:(Tryz.prog).cellsOf 205=1:=by kernel_rfl
 have hct:(Tryz.prog).cellsOf 315=20:=by kernel_rfl
 obtain rfl:=Option.some.inj (hT.symm.trans ht);have hc:=Lib.cells_of_tab (zs:=Lib.pow10Tab) hu he hce hct hd;unfold World.var? at hv;rw[tab_glb] at hv;have hv':(match W.heap[GT]? with|some (.cells cs _ _)=>some cs|_=>none)=some cs:=hv;cases hh:W.heap[GT]? with
 |none=>rw[hh] at hv';cases hv'
 |some o=>
  rw[hh] at hv';cases o with
  |cells a b c=>
   obtain rfl:a=cs:=Option.some.inj hv';refine⟨b,c,?_⟩;rw[hh]
   have:a=tabA:=by
    unfold tabA;rw[←hc]
   rw[this]
  |_=>cases hv'
end Go.Proofs.YtjkddcfoolilbaaGreatDoor
namespace Go.Proofs.YtjkddcfoolilbaaGreatDoor
open Go.Abs Go.ChangeAt Go.ChangeShapes Go.RowKit Go.WideShapes
theorem own:ownKnob Tryz.prog.godebug=none:=by kernel_rfl
theorem und4:Tryz.prog.underlying 4=some .bool:=by kernel_rfl
abbrev laid3:List (String×DataW Unit):=Rows.equationSeriesRow.laid
theorem door_met(os:Os)(args:Array Value):laidMetH Tryz.prog laid3 ((World.doorLaid Tryz.prog 24 os).forCall (fun _ _=>0) ⟨#[],args,[]⟩).memory:=
 laidMetH_of_parts3 (fuel:=8) (laidMet_of_run' 8 (by kernel_rfl) (by kernel_rfl)) (by kernel_rfl) (by kernel_rfl)
set_option maxRecDepth 100000 in
theorem fd_(os:Os)(started:os.Started)(H:Type)(enc:TypeId×Value→H):
    ReturnsInHanded {} Tryz.checked os 3 .any (fun w args=>(Rows.equationSeriesSpec.pre enc Tryz.prog Tryz.f3 [] false w args∧laidMetH Tryz.prog laid3 w)∧sizedMet enc Tryz.prog Tryz.f3 (OpenSpec.ofChange Rows.equationSeriesSpec) false w args)
     (Rows.equationSeriesSpec.post enc Tryz.prog Tryz.f3 false true false false):=by
 refine returnsInHanded_of_change_and (C:=Tryz.checked) (X:=fun w _=>laidMetH Tryz.prog laid3 w) (fun _ _ _ hh h=>h.of_heap hh) own started (by kernel_rfl) Tryz.func3
  (ChangeSpec.witness_shaped (enc:=enc) (C:=Tryz.checked) (os:=os) (X:=fun w _=>laidMetH Tryz.prog laid3 w) false (World.doorLaid Tryz.prog 24 os) #[.slice none 0 0,(.agg #[.int .i64 0,.int .i64 0,.int .u8 0]),(.agg #[.int .i64 0,.int .i64 0,.int .u8 0]),.slice none 0 0,(.int .i64 0)] 8 rfl (World.shaped_of_RefB (by kernel_rfl) (by kernel_rfl)) (by kernel_rfl) (by kernel_rfl) (by kernel_rfl) (door_met os _)) ?_
 intro W base args ds gs before hval0 hW _ _ hX _;have hval:∀(j:Nat) t v,Tryz.f3.params[j]?=some t→args[j]?=some v→Value.okWide Tryz.prog W .any base t v:=hval0;have hW':=hW;obtain⟨p,q,hA0,hV,rfl,hfz,hnd⟩:=hW;have hA:DataW.TrodAll enc Tryz.prog W 0 (fun _=>true) true Tryz.f3.params.toList args.toList ds p:=hA0;rw[Tryz.params3] at hA hval;obtain⟨v0,vs0,d0,ds0,p0,q0,hargs,rfl,rfl,h0,r0⟩:=trodAll_cons hA;obtain⟨v1,vs1,d1,ds1,p1,q1,rfl,rfl,rfl,h1,r1⟩:=trodAll_cons r0;obtain⟨v2,vs2,d2,ds2,p2,q2,rfl,rfl,rfl,h2,r2⟩:=trodAll_cons r1;obtain⟨v3,vs3,d3,ds3,p3,q3,rfl,rfl,rfl,h3,r3⟩:=trodAll_cons r2;obtain⟨v4,vs4,d4,ds4,p4,q4,rfl,rfl,rfl,h4,r4⟩:=trodAll_cons r3;obtain⟨rfl,rfl,rfl⟩:=trodAll_nil r4;obtain rfl:args= #[v0,v1,v2,v3,v4]:=by cases args;simp_all
 obtain⟨rfl,rfl⟩:=trodVars_none hV;obtain⟨a0,len0,cap0,rfl⟩:=okWide_slice tySt (hval 0 22 v0 rfl rfl);obtain⟨a3,len3,cap3,rfl⟩:=okWide_slice tyS (hval 3 25 v3 rfl rfl);have lt0:∀x∈p0,x.block< W.heap.size:=by obtain⟨m,hm⟩:=h0;exact DataW.trod_lt m _ _ _ hm
 have lt1:∀x∈p1,x.block< W.heap.size:=by obtain⟨m,hm⟩:=h1;exact DataW.trod_lt m _ _ _ hm
 have lt2:∀x∈p2,x.block< W.heap.size:=by obtain⟨m,hm⟩:=h2;exact DataW.trod_lt m _ _ _ hm
 have lt3:∀x∈p3,x.block< W.heap.size:=by obtain⟨m,hm⟩:=h3;exact DataW.trod_lt m _ _ _ hm
 have lt4:∀x∈p4,x.block< W.heap.size:=by obtain⟨m,hm⟩:=h4;exact DataW.trod_lt m _ _ _ hm
 obtain⟨l0,o0,g0⟩:=twP_of h0;obtain⟨l1,o1,g1⟩:=rh_ (hval 1 24 v1 rfl rfl) h1;obtain⟨l2,o2,g2⟩:=rh_ (hval 2 24 v2 rfl rfl) h2;obtain⟨l3,o3,g3⟩:=mW_ h3;obtain⟨l4,o4,g4⟩:=intP_of (hval 4 3 v4 rfl rfl) h4;clear hA0 hval0;refine((gY_ l0 l1 l2 l3 l4 o0.1 o0.2 o1 o2 o3 (rvlen g3) o4).calls (fun _=>False) W [.slice a0 len0 cap0,v1,v2,.slice a3 len3 cap3,v4] ⟨fun _ h=>h.elim,fun h=>h,tab_of (by rw[MakeChecks.laidMetH_plain _ _ _ (by kernel_rfl)] at hX;exact hX)⟩ ⟨_,_,rfl,g0,⟨_,_,rfl,g1,⟨_,_,rfl,g2,⟨_,_,rfl,g3,⟨_,_,rfl,g4,rfl⟩⟩⟩⟩⟩).mono fun e W' ⟨y,he,hy,bel⟩=>?_;have hy':y= .bool true:=hy;subst he;subst hy';exact⟨_,rfl,_,_,_,[],_,[],hW',trodAll_mk1 (shut_bool und4 _),(trodAll_cons_mk (Below.trod kc_ (by kernel_rfl) (of_decide_eq_true (by kernel_rfl)) h0 bel lt0) (trodAll_cons_mk (Below.trod kc_ (by kernel_rfl) (of_decide_eq_true (by kernel_rfl)) h1 bel lt1) (trodAll_cons_mk (Below.trod kc_ (by kernel_rfl) (of_decide_eq_true (by kernel_rfl)) h2 bel lt2) (trodAll_cons_mk (Below.trod kc_ (by kernel_rfl) (of_decide_eq_true (by kernel_rfl)) h3 bel lt3) (trodAll_cons_mk (Below.trod kc_ (by kernel_rfl) (of_decide_eq_true (by kernel_rfl)) h4 bel lt4) trodAll_mk0))))),rfl,bel.frame _,fun h=>by cases h⟩
theorem gF_:Rows.EquationSeriesSaid:=
 OpenClaim.holds_of_wide 3 Tryz.f3 rfl rfl rfl rfl rfl rfl rfl ⟨rfl,rfl,rfl,rfl,rfl⟩ rfl rfl rfl rfl rfl equationSeries_fn Tryz.func3 fe_
  (of_decide_eq_true hk_) f9_
  (fun os started H enc _=>fd_ os started H enc)
theorem equationSeries_card:Rows.EquationSeriesCardSaid:=
 Claim7.holds_tied_plain_at .later [] [.data,.data,.data] true (true, "a2e722255ea34bf564eb212ae9a05d01d730f7efd93abc3b2089f3194f63ef81") false
  gF_ (fun _ h=>by cases h) g5_ (fun _ h=>by cases h) equationSeries_row_tie rfl ⟨rfl,rfl⟩ all_mi rfl
  (fun f fn hf hfn=>by
   obtain rfl:f=3:=Option.some.inj (equationSeries_fn.symm.trans hf)|>.symm;obtain rfl:fn=Tryz.f3:=(Option.some.inj (Tryz.func3.symm.trans hfn)).symm
   exact⟨all_lk,fun j t ht=>by
    have hm:t∈Tryz.f3.params.toList:=by simpa using Array.mem_of_getElem? ht
    exact(show Tryz.prog.wantsStandIn t=false by simpa using List.all_eq_true.1 g6_ t hm)⟩)
  hm_
#print axioms equationSeries_card
end Go.Proofs.YtjkddcfoolilbaaGreatDoor
