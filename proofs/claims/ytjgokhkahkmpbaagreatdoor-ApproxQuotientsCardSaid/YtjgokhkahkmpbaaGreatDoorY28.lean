/- Part Y28 of the proof. -/
import Derived.Test.YtjgokhkahkmpbaaGreatDoorY27
import Derived.Shelf.Strconv.Itoa3
import Derived.Shelf.Strings.Repeat
set_option linter.all false
namespace Go.Proofs.YtjgokhkahkmpbaaGreatDoor
open Go.Abs
set_option maxRecDepth 100000
set_option maxHeartbeats 2000000
def okTo(L:Nat)(p t:Lq)(k:Rat)(n:Nat):Prop:=n< L/\smL p/\smL t/\bu t≠0/\sm k/\smL (cI t k)/\p.length<=274877906944/\t.length<=274877906944
instance (L:Nat) (p t:Lq) (k:Rat) (n:Nat):Decidable (okTo L p t k n):=inferInstanceAs (Decidable (_/\_/\_/\_/\_/\_/\_/\_))
def toM:Nat->Lq->Lq->Option Lq
 |0,_,_=>none
 |f+1,p,out=>if aA p=[] then(if p.length<=1099511627776 then some out else none) else
  let n:=(aA p).length- 1
  let t:=(chP n).1
  let k:=bu p/ bu t
  if okTo out.length p t k n then toM f (gz p (cI t k)) (out.set n k) else none
def oY(f:Nat)(p:Lq):Option Lq:=
 if p.length<=1000/\(aA p).length<=41/\(∀k,k< (aA p).length->GD k) then toM f (aA p) (List.replicate (aA p).length 0) else none
def toS(ts:Lw):Lq×Lq->AState
 |(p,out)=>⟨[(0,.arr (pE p)),(4,.lsl 1 0 out.length (some out.length) 3),(5,.arr (cE ts)),(6,i64 (db p))],[(1,some ⟨42,3,pE out⟩)],2,47⟩
theorem Cc(f:Nat)(p r:Lq)(h:oY f p=some r):FS 43 [.arr (pE p)] (.tup [.arr (pE r),i64 0]):=by
 unfold oY at h;split at h
 case isFalse=>cases h
 case isTrue hp=>
 obtain⟨hp1,hp2,hp3⟩:=hp;have htl:=cv p;obtain⟨q,hq⟩:∃q,q=aA p:=⟨_,rfl⟩;rw[<-hq] at h hp2 hp3 htl;have hql:q.length<=41:=hp2;refine f_c Tryz.func43 ?_;refine r_z 2 ?_;have htr:=dT p ω;rw[<-hq] at htr;refine r_c 3 (htr) ?_;refine a_z ?_;refine ac (r_c 3 (cK q ω) ?_);refine a_z ?_;refine aw rfl (λh1=>?_) (λh1=>?_);have h2:(40:Int)< db q:=by simpa using h1
 have h3:=cv q;unfold db at h2;omega;refine am (s_r 4 ?_);refine a_2 ?_;refine o_1 (.makeSlice (l:=q.length) (c:=q.length) rfl rfl te_29.h TZ.h rfl TB.h ν ν ι) ?_;refine a_z ?_;refine r_c 4 (wn q.length ω hp3) ?_;refine a_z ?_;refine ac (r_c 3 (cK q ω) ?_);refine a_z ?_;refine aG (λ_:Unit=>⟨[(4,.lsl 1 0 r.length (some r.length) 3)],[(1,some ⟨42,3,pE r⟩)],2,47⟩) (λ_=>True) ?_ ?_;refine ak (aC (λx:Nat×Lq×Lq=>toS (kn (q.length+1)) x.2) (λx=>x.1) (λx=>toM x.1 x.2.1 x.2.2=some r/\x.2.2.length=q.length/\x.2.1.length<=1099511627776) (f,q,List.replicate q.length 0) ⟨h,ψ,by simp only;omega⟩ ?_ ?_);simp only[toS.eq_1,List.length_replicate];refine s_x [(1,4)] (λhs=>e_43) (λhs=>?_)
 ·repeat' (first|exact aD|refine h_c ?_ ?_|exact CvLL.zeros hs _|exact bG|refine ay ?_|exact ax|refine af ?_ ?_|exact ah hs (fH _)|exact aX)
 rintro⟨k,p,out⟩ ⟨h,ho,hpl⟩;simp only at h ho hpl;simp only[toS.eq_1];cases k with
 |zero=>cases h
 |succ k=>
  rw[toM] at h;refine ac (r_z 2 ?_);refine aw rfl (λh1=>?_) (λh1=>?_)
  ·have h0:aA p≠[]:=by
    intro e;have e2:=degP_neg.2 e;simp at h1;omega
   rw[if_neg h0] at h;simp only at h;split at h
   case isFalse=>cases h
   case isTrue hk=>
   obtain⟨n,hn⟩:∃n,n=(aA p).length- 1:=⟨_,rfl⟩;obtain⟨t,ht⟩:∃t,t=(chP n).1:=⟨_,rfl⟩;obtain⟨x,hx⟩:∃x,x=bu p/ bu t:=⟨_,rfl⟩;rw[<-hn,<-ht,<-hx] at h hk;obtain⟨k1,k2,k3,k4,k5,k6,k7,k8⟩:=hk
   have hdn:db p=(n:Int):=by
    unfold db;have:=List.length_pos_iff.2 h0;omega
   have hov:=fP (bu p) (bu t) k4 (by have e1:=ug k2;have e2:=ug k3;unfold sm at e1 e2;omega);rw[<-hx] at hov
   have hgt:(cE (kn (q.length+1)))[((n:Nat):Int).toNat]?=some [.arr (pE t)]:=by
    refine vg ?_;rw[Int.toNat_natCast,ht,kn,List.getElem?_map,List.getElem?_range ω];rfl
   have hsl:=eB t x
   have hgo:(pE (out.set n x))[0+((n:Nat):Int).toNat]?=some (qC x):=by
    rw[show 0+((n:Nat):Int).toNat=n by omega];exact cj (by rw[List.getElem?_set,if_pos rfl,if_pos k1])
   have hst:(pE out).set (0+((n:Nat):Int).toNat) (qC x)=pE (out.set n x):=by
    rw[show 0+((n:Nat):Int).toNat=n by omega,j5]
   have hlo:(out.set n x).length=out.length:=ψ
   have hg0:(pE out)[0+((n:Nat):Int).toNat]?=some (qC (coP out n)):=by
    rw[show 0+((n:Nat):Int).toNat=n by omega];exact cj (bJ k1)
   have hsb:(gz p (cI t x)).length<=1099511627776:=by
    have h1:=AQ p (cI (cI t x) (-1));have h2:=eB (cI t x) (-1);unfold gz;omega
   rw[hdn];refine am (ac (ak (ac (r_d hmix 12 ?_))));refine c_s (lI p ω) ?_;refine a_2 ?_;refine i_x hgt ?_;refine l_1 hgt ?_;refine c_s (lI t ω) ?_;refine c_s (hov) ?_;refine a_1 ?_;refine ee (.store rfl rfl hg0 rfl rfl rfl TS.h (nle rfl)) ?_;refine ao (n_k ?_);refine AWp.ent (st':=⟨[(0,.arr (pE p)),(4,.lsl 1 0 out.length (some out.length) 3),(5,.arr (cE (kn (q.length+1)))),(6,i64 n)],[(1,some ⟨42,3,pE (out.set n x)⟩)],2,47⟩) ?_ ?_;refine s_x [] (λhs=>e_43) (λhs=>?_) e_2
   ·repeat' (first|exact aD|refine h_c ?_ ?_|exact aI hs hst (aJ _)|exact bG|refine ay ?_|exact ax|refine af ?_ ?_|exact ah hs (fH _)|exact aX)
   refine r_d hmix 12 ?_;refine a_3 ?_;refine i_x hgt ?_;refine l_1 hgt ?_;refine a_3 ?_
   first|refine av (.load_l rfl rfl hgo TG.h TS.h (nle rfl)) rfl rfl ?_|refine av (.load_a rfl hgo TG.h TS.h (nle rfl)) rfl rfl ?_
   refine c_s (iH t x k3 k5 ω) ?_;refine c_s (oi p (cI t x) k2 k6 ω ω) ?_;refine a_1 ?_;refine ao (n_k ?_);refine r_m 3 ?_;refine c_s (cK (gz p (cI t x)) hsb) ?_;refine a_z ?_;refine⟨(k,gz p (cI t x),out.set n x),Nat.lt_succ_self k,⟨h,by simp only;omega,hsb⟩,?_⟩;simp only[toS.eq_1,hlo];exact s_f []
  have h0:aA p=[]:=by
   refine degP_neg.1 ?_;simp at h1;omega
  rw[if_pos h0,if_pos hpl] at h;cases h;refine aB ⟨(),trivial,?_⟩;exact s_e []
 rintro _ _;refine r_z 3 ?_;refine an (Fin.many ⟨_,_,rfl,rfl,⟨_,_,rfl,rfl,rfl⟩⟩ (nle rfl) ?_);exact af (Cv.sealE aE rfl (λ_ _ h=>by cases h) rfl ψ (aJ r)) (af (ah aE (ag _)) ax)

inductive LeLL:Lc->Lc->Prop
 |nil:LeLL [] []
 |cons {e e' es es'}:LeL e e'->LeLL es es'->LeLL (e::es) (e'::es')
theorem leL_len{xs ys:La}(h:LeL xs ys):ys.length=xs.length:=by
 induction h with
 |nil=>rfl
 |cons _ _ ih=>simp[ih]
theorem leL_cs{M:Nat->Prop}{β:Bq}{w:World}{b:Nat}{xs ys:La}(h:LeL xs ys):∀{off:Nat},RVcs M β w b xs off->RVcs M β w b ys off:=by
 induction h with
 |nil=>exact λh=>h
 |cons h1 _ ih=>rintro off ⟨⟨x,hx,hr⟩,hs⟩;exact⟨⟨x,hx,h1 M β w x hr⟩,ih hs⟩
theorem LeLL.ess{M:Nat->Prop}{β:Bq}{w:World}{b s:Nat}{es es':Lc}(h:LeLL es es'):∀{off:Nat},RVess M β w b s es off->RVess M β w b s es' off:=by
 induction h with
 |nil=>exact λh=>h
 |cons h1 _ ih=>rintro off ⟨h0,hc,hr⟩;exact⟨(leL_len h1).trans h0,leL_cs h1 hc,ih hr⟩
theorem LeLL.length{es es':Lc}(h:LeLL es es'):es'.length=es.length:=by
 induction h with
 |nil=>rfl
 |cons _ _ ih=>simp[ih]
theorem Le.arr{es es':Lc}(h:LeLL es es'):Le (.arr es) (.arr es'):=by
 rintro M β w y ⟨a,c,rfl,h1,h2,h3⟩;refine⟨a,c,by rw[h.length],by rw[h.length];exact h1,h2,h3.imp (λe=>?_) ?_⟩;subst e;cases h;rfl;rintro⟨b,off,s,rfl,hN,hm,hr⟩;exact⟨b,off,s,rfl,hN,hm,h.ess hr⟩
theorem LeLL.refl:∀es,LeLL es es
 |[]=> .nil
 |e::es=> .cons (LeL.refl e) (LeLL.refl es)
section
variable {P:Go.Program}{T:Nat}{x y:Operand}
end











end Go.Proofs.YtjgokhkahkmpbaaGreatDoor
namespace Go.Proofs.YtjgokhkahkmpbaaGreatDoor
open Go.Shelf
def BK:Go.Shelf.Ren:=⟨fun|171=>96|243=>158|246=>210|283=>238|284=>239|285=>240|286=>241|129=>261|317=>260|318=>262|319=>263|320=>264|337=>280|338=>281|n=>n,fun|3=>3|9=>9|2=>2|4=>4|171=>269|0=>0|53=>173|37=>146|5=>5|173=>272|212=>293|51=>176|20=>20|213=>294|46=>253|232=>305|233=>306|n=>n,fun|17=>0|18=>2|19=>3|n=>n⟩
theorem lay171:Go.Proofs.LaysM.n171 Tryz.prog BK:={
 mixed:=by kernel_rfl,
 f129:=Tryz.func261.trans (congrArg some κ),
 f171:=Tryz.func96.trans (congrArg some κ),
 f243:=Tryz.func158.trans (congrArg some κ),
 f246:=Tryz.func210.trans (congrArg some κ),
 f283:=Tryz.func238.trans (congrArg some κ),
 f284:=Tryz.func239.trans (congrArg some κ),
 f285:=Tryz.func240.trans (congrArg some κ),
 f286:=Tryz.func241.trans (congrArg some κ),
 f317:=Tryz.func260.trans (congrArg some κ),
 f318:=Tryz.func262.trans (congrArg some κ),
 f319:=Tryz.func263.trans (congrArg some κ),
 f320:=Tryz.func264.trans (congrArg some κ),
 f337:=Tryz.func280.trans (congrArg some κ),
 f338:=Tryz.func281.trans (congrArg some κ),
 t0:=Tryz.underlying0,
 a0:=Tryz.isAgg0,
 z0:=Tryz.sizeOf0,
 v0:=Tryz.zeroValue0,
 t2:=Tryz.underlying2,
 a2:=Tryz.isAgg2,
 z2:=Tryz.sizeOf2,
 v2:=Tryz.zeroValue2,
 t3:=Tryz.underlying3,
 a3:=Tryz.isAgg3,
 z3:=Tryz.sizeOf3,
 v3:=Tryz.zeroValue3,
 t4:=Tryz.underlying4,
 a4:=Tryz.isAgg4,
 z4:=Tryz.sizeOf4,
 v4:=Tryz.zeroValue4,
 t5:=Tryz.underlying5,
 a5:=Tryz.isAgg5,
 z5:=Tryz.sizeOf5,
 v5:=Tryz.zeroValue5,
 t9:=Tryz.underlying9,
 a9:=Tryz.isAgg9,
 z9:=Tryz.sizeOf9,
 v9:=Tryz.zeroValue9,
 t20:=Tryz.underlying20,
 a20:=Tryz.isAgg20,
 z20:=Tryz.sizeOf20,
 v20:=Tryz.zeroValue20,
 t37:=Tryz.underlying146,
 a37:=Tryz.isAgg146,
 z37:=Tryz.sizeOf146,
 v37:=Tryz.zeroValue146,
 t46:=Tryz.underlying253,
 a46:=Tryz.isAgg253,
 z46:=Tryz.sizeOf253,
 v46:=Tryz.zeroValue253,
 t51:=Tryz.underlying176,
 a51:=Tryz.isAgg176,
 z51:=Tryz.sizeOf176,
 v51:=Tryz.zeroValue176,
 t53:=Tryz.underlying173,
 a53:=Tryz.isAgg173,
 z53:=Tryz.sizeOf173,
 v53:=Tryz.zeroValue173,
 t171:=Tryz.underlying269,
 a171:=Tryz.isAgg269,
 z171:=Tryz.sizeOf269,
 v171:=Tryz.zeroValue269,
 t173:=Tryz.underlying272,
 a173:=Tryz.isAgg272,
 z173:=Tryz.sizeOf272,
 v173:=Tryz.zeroValue272,
 t212:=Tryz.underlying293,
 a212:=Tryz.isAgg293,
 z212:=Tryz.sizeOf293,
 v212:=Tryz.zeroValue293,
 t213:=Tryz.underlying294,
 a213:=Tryz.isAgg294,
 z213:=Tryz.sizeOf294,
 t232:=Tryz.underlying305,
 a232:=Tryz.isAgg305,
 z232:=Tryz.sizeOf305,
 v232:=Tryz.zeroValue305,
 t233:=Tryz.underlying306,
 a233:=Tryz.isAgg306,
 z233:=Tryz.sizeOf306,
 v233:=Tryz.zeroValue306,
 g17:=by kernel_rfl,
 g18:=by kernel_rfl,
 g19:=by kernel_rfl,
 i0:=by kernel_rfl,
 i2:=by kernel_rfl,
 i3:=by kernel_rfl,
 i4:=by kernel_rfl,
 i5:=by kernel_rfl,
 i9:=by kernel_rfl,
 i20:=by kernel_rfl,
 i37:=by kernel_rfl,
 i46:=by kernel_rfl,
 i51:=by kernel_rfl,
 i53:=by kernel_rfl,
 i171:=by kernel_rfl,
 i173:=by kernel_rfl,
 i212:=by kernel_rfl,
 i232:=by kernel_rfl,
 i233:=by kernel_rfl,
 m17:=by kernel_rfl,
 m18:=by kernel_rfl,
 m19:=by kernel_rfl}
def ui:Go.Shelf.Ren:=⟨fun|105=>160|212=>212|99=>213|165=>214|166=>95|170=>94|169=>97|263=>242|264=>243|206=>244|240=>157|241=>245|276=>209|277=>265|n=>n,fun|9=>9|3=>3|4=>4|20=>20|0=>0|46=>253|109=>254|5=>5|72=>148|76=>151|51=>176|146=>274|53=>173|148=>276|70=>145|37=>146|75=>150|127=>199|164=>249|80=>91|n=>n,fun|n=>n⟩
theorem lay105:Go.Proofs.Lays.n105 Tryz.prog ui:={
 mixed:=by kernel_rfl,
 f99:=Tryz.func213.trans (congrArg some κ),
 f105:=Tryz.func160.trans (congrArg some κ),
 f165:=Tryz.func214.trans (congrArg some κ),
 f166:=Tryz.func95.trans (congrArg some κ),
 f169:=Tryz.func97.trans (congrArg some κ),
 f170:=Tryz.func94.trans (congrArg some κ),
 f206:=Tryz.func244.trans (congrArg some κ),
 f212:=Tryz.func212.trans (congrArg some κ),
 f240:=Tryz.func157.trans (congrArg some κ),
 f241:=Tryz.func245.trans (congrArg some κ),
 f263:=Tryz.func242.trans (congrArg some κ),
 f264:=Tryz.func243.trans (congrArg some κ),
 f276:=Tryz.func209.trans (congrArg some κ),
 f277:=Tryz.func265.trans (congrArg some κ),
 t0:=Tryz.underlying0,
 a0:=Tryz.isAgg0,
 z0:=Tryz.sizeOf0,
 v0:=Tryz.zeroValue0,
 t3:=Tryz.underlying3,
 a3:=Tryz.isAgg3,
 z3:=Tryz.sizeOf3,
 v3:=Tryz.zeroValue3,
 t4:=Tryz.underlying4,
 a4:=Tryz.isAgg4,
 z4:=Tryz.sizeOf4,
 v4:=Tryz.zeroValue4,
 t5:=Tryz.underlying5,
 a5:=Tryz.isAgg5,
 z5:=Tryz.sizeOf5,
 v5:=Tryz.zeroValue5,
 t9:=Tryz.underlying9,
 a9:=Tryz.isAgg9,
 z9:=Tryz.sizeOf9,
 v9:=Tryz.zeroValue9,
 t20:=Tryz.underlying20,
 a20:=Tryz.isAgg20,
 z20:=Tryz.sizeOf20,
 v20:=Tryz.zeroValue20,
 t37:=Tryz.underlying146,
 a37:=Tryz.isAgg146,
 z37:=Tryz.sizeOf146,
 v37:=Tryz.zeroValue146,
 t46:=Tryz.underlying253,
 a46:=Tryz.isAgg253,
 z46:=Tryz.sizeOf253,
 v46:=Tryz.zeroValue253,
 t51:=Tryz.underlying176,
 a51:=Tryz.isAgg176,
 z51:=Tryz.sizeOf176,
 v51:=Tryz.zeroValue176,
 t53:=Tryz.underlying173,
 a53:=Tryz.isAgg173,
 z53:=Tryz.sizeOf173,
 v53:=Tryz.zeroValue173,
 t70:=Tryz.underlying145,
 a70:=Tryz.isAgg145,
 z70:=Tryz.sizeOf145,
 v70:=Tryz.zeroValue145,
 t72:=Tryz.underlying148,
 a72:=Tryz.isAgg148,
 z72:=Tryz.sizeOf148,
 v72:=Tryz.zeroValue148,
 t75:=Tryz.underlying150,
 a75:=Tryz.isAgg150,
 z75:=Tryz.sizeOf150,
 v75:=Tryz.zeroValue150,
 t76:=Tryz.underlying151,
 a76:=Tryz.isAgg151,
 z76:=Tryz.sizeOf151,
 v76:=Tryz.zeroValue151,
 t109:=Tryz.underlying254,
 a109:=Tryz.isAgg254,
 z109:=Tryz.sizeOf254,
 v109:=Tryz.zeroValue254,
 t127:=Tryz.underlying199,
 a127:=Tryz.isAgg199,
 z127:=Tryz.sizeOf199,
 v127:=Tryz.zeroValue199,
 t146:=Tryz.underlying274,
 a146:=Tryz.isAgg274,
 z146:=Tryz.sizeOf274,
 v146:=Tryz.zeroValue274,
 t148:=Tryz.underlying276,
 a148:=Tryz.isAgg276,
 z148:=Tryz.sizeOf276,
 v148:=Tryz.zeroValue276,
 t164:=Tryz.underlying249,
 a164:=Tryz.isAgg249,
 z164:=Tryz.sizeOf249,
 v164:=Tryz.zeroValue249}
theorem ext105:Builder.Extra Tryz.prog ui:={
 sizeBuilder:=by kernel_rfl,
 liesBuilder:=by kernel_rfl,
 t5:=Tryz.underlying5,
 a5:=Tryz.isAgg5,
 z5:=Tryz.sizeOf5,
 v5:=Tryz.zeroValue5,
 infoByte:=by kernel_rfl,
 cellsByte:=by kernel_rfl,
 sizeByte:=by kernel_rfl,
 neB5:=by decide}
end Go.Proofs.YtjgokhkahkmpbaaGreatDoor
namespace Go.Proofs.YtjgokhkahkmpbaaGreatDoor
open Go.Abs Go.RowKit
theorem FE:(Tryz.prog).globalNamed "internal/strconv.uint64pow10" =some GT:=by kernel_rfl
theorem tab_is{w:World}(h:TabW w):Lib.TabIs Tryz.prog w "internal/strconv.uint64pow10" .u64 Lib.pow10Tab:=by
 obtain⟨t,z,h⟩:=h;unfold Lib.TabIs World.var?;rw[FE];show(match w.heap[GT]? with|some (.cells cs _ _)=>some cs|_=>none)=_;rw[h];rfl
theorem CJ(w:World)(k:Nat)(os:Array Obj):Below w.heap.size w (Sort.grow (w.drewN k) os):=
 ⟨rfl,rfl,rfl,by show w.heap.size<=(w.heap++os).size;simp,λi hi=>by show(w.heap++os)[i]?=_;rw[Array.getElem?_append_left hi]⟩
theorem Hz(n:Nat)(h:n<=9223372036854775807):FS 96 [i64 n] (tx (Lib.decDigits n)):=by
 refine⟨ae (ag _) ai,(xQ 0 δ).enters,λM w vals hM hargs=>?_⟩;obtain⟨x,xs,rfl,hx,hxs⟩:=hargs;have hx':x= .int .i64 n:=hx;have hxs':xs=[]:=hxs;subst hx';subst hxs';have hc:=Any.strconv_Itoa lay171 (n:Int) ω ω w (tab_is hM.tab);refine Calls.mono hc λe w' ⟨he,k,os,hw⟩=>⟨_,he,?_,?_⟩;show Value.string _=Value.string _;unfold Lib.itoa;rw[if_neg ω,Int.toNat_natCast];rw[hw];exact CJ w k os
theorem Cd(z:UInt8)(n:Nat)(h:n<=100):FS 160 [tx [z],i64 n] (tx (List.replicate n z)):=by
 have en:∀(xs:Array Value) (w:World),(callFunc 160 xs).run Tryz.prog w= .ok (.enter 160 xs) w:=λxs w=>re Tryz.func160 (c:=(Tryz.f160).body.get rfl) κ rfl xs w;refine⟨ae (ag _) (ae (ag _) ai),en,λM w vals hM hargs=>?_⟩;obtain⟨x,xs,rfl,hx,y,ys,rfl,hy,hxs⟩:=hargs;have hx':x= .string ⟨[z].toArray⟩:=hx;have hy':y= .int .i64 n:=hy;have hxs':ys=[]:=hxs;subst hx';subst hy';subst hxs';have hc:=Any.strings_Repeat lay105 ext105 ⟨[z].toArray⟩ n w ω (by simp[ByteArray.size];omega);refine Calls.mono hc λe w' ⟨he,hb⟩=>⟨_,he,?_,hb⟩;show Value.string _=Value.string _;congr 2
 have:∀k,Lib.repeatL [z] k=List.replicate k z:=λk=>by
  induction k with
  |zero=>rfl
  |succ k ih=>rw[Lib.repeatL,ih,List.replicate_succ];rfl
 exact congrArg List.toArray (this n)
end Go.Proofs.YtjgokhkahkmpbaaGreatDoor
namespace Go.Proofs.YtjgokhkahkmpbaaGreatDoor
open Go.Abs
set_option maxRecDepth 20000
def Ek(n:Nat):List UInt8:=List.replicate (9- (Lib.decDigits n).length) 48++Lib.decDigits n
def txD:Ln->List UInt8
 |[]=>[]
 |x::xs=>Lib.decDigits x++xs.flatMap Ek
def mtx(m:Nat):List UInt8:=if m=0 then [48] else txD (az MB m).reverse
theorem yI{l:Ln}(h:l≠[])(x:Nat):txD (l++[x])=txD l++Ek x:=by
 cases l with
 |nil=>exact absurd rfl h
 |cons a l=>simp[txD]
theorem xo:∀k n,n< 10^ (k+1)->Lib.nDigits n<=k+1
 |0,n,h=>by rw[Lib.nDigits_small (by simpa using h)];omega
 |k+1,n,h=>by
  by_cases h1:n< 10;rw[Lib.nDigits_small h1];omega;rw[Lib.nDigits_big h1];have:n/ 10< 10^ (k+1):=by rw[Nat.pow_succ] at h;omega
  have:=xo k (n/ 10) this;omega
theorem ye{n:Nat}(h:n< 1000000000):(Lib.decDigits n).length<=9:=by
 rw[Lib.decDigits_length];exact xo 8 n h
theorem HQ(n:Nat):Lib.decDigits n≠[]:=by
 intro e;have h1:=Lib.decDigits_length n;rw[e] at h1;have:=Lib.nDigits_pos n;simp at h1;omega
theorem Gt{n:Nat}(h:n< 1000000000):(Ek n).length=9:=by
 have:=ye h;simp[Ek];omega
theorem txD_ne{l:Ln}(h:l≠[]):txD l≠[]:=by
 cases l with
 |nil=>exact absurd rfl h
 |cons a l=>intro e;exact HQ a (List.append_eq_nil_iff.1 e).1
theorem CW{l:Ln}(h:∀x∈l,x< 1000000000):(txD l).length<=9* l.length:=by
 cases l with
 |nil=>simp[txD]
 |cons a l=>
  have h1:=ye (h a (List.mem_cons_self ..))
  have h2:∀l:Ln,(∀x∈l,x< 1000000000)->(l.flatMap Ek).length=9* l.length:=by
   intro l
   induction l with
   |nil=>intro _;rfl
   |cons b l ih=>
    intro h;rw[List.flatMap_cons,List.length_append,Gt (h b (List.mem_cons_self ..)),ih λx hx=>h x (List.mem_cons_of_mem _ hx),List.length_cons];omega
  have h3:=h2 l λx hx=>h x (List.mem_cons_of_mem _ hx);simp only[txD,List.length_append,List.length_cons];omega
def tf0(L:Ln):Unit->AState
 |u=>⟨[(1,.lptr 1 0 0),(3,.lptr 2 0 0),(11,.clos 211 [] [.aptr [[.arr (dE L)]] 0 0])],[(1,some ⟨38,1,[[.arr (dE L)]]⟩),(2,some ⟨148,2,[dX 2 0 none]⟩)],4,31⟩
def tf1(L:Ln):List UInt8->AState
 |q=>⟨[(1,.lptr 1 0 0),(3,.lptr 2 0 0),(11,.clos 211 [] [.aptr [[.arr (dE L)]] 0 0])],[(1,some ⟨38,1,[[.arr (dE L)]]⟩),(2,some ⟨148,2,[dX 2 3 (some q)]⟩),(3,some ⟨5,1,bE q⟩)],4,31⟩
def tfS(L:Ln):Nat->AState
 |0=>tf0 L ()
 |k+1=>tf1 L (txD (L.reverse.take (k+1)))
theorem wl(m:Nat)(h:bl m<=68719476736):FS 98 [.agg [mag m]] (tx (mtx m)):=by
 have hz:=jH m;refine f_c Tryz.func98 ?_;refine r_z 2 ?_;refine ac (r_c 2 (hz) ?_);refine ao ?_;refine aw rfl (λh1=>?_) (λh1=>?_);have h2:m=0:=by simpa using h1
 subst h2;refine r_z 1 ?_;exact an (t_e (ag _));have h2:m≠0:=by simpa using h1
 obtain⟨L,hL⟩:∃L,L=az MB m:=⟨_,rfl⟩;have hm:mag m= .arr (dE L):=by unfold mag;rw[hL]
 have hLl:L.length<=68719476736:=by
  rw[hL];exact Nat.le_trans (bR (b:=MB) δ m) h
 have hLb:∀x∈L,x< 1000000000:=by rw[hL];exact dD (b:=MB) δ m
 have hLn:L≠[]:=by rw[hL];exact λe=>h2 ((fC (b:=MB) δ).1 e)
 have hn1:=List.length_pos_iff.2 hLn;rw[show mtx m=txD L.reverse by unfold mtx;rw[if_neg h2,hL]];clear hz;rw[hm];refine am ?_;have hcl:Closed (.aptr [[.arr (dE L)]] 0 0):=iJ (λe he c hc=>by simp at he;subst he;simp at hc;subst hc;exact c6 _);have hcl2:Closed (.clos 211 [] [.aptr [[.arr (dE L)]] 0 0]):=aY ai (ae hcl ai);have hdl:(dE L).length=L.length:=nC L;refine r_z 1 ?_;refine ac (r_c 3 (kg L) ?_);refine ao ?_;refine aG (λ_:Unit=>tf1 L (txD L.reverse)) (λ_=>True) ?_ ?_;refine ak (AWp.rangeFunc (α:=Nat) (γ:=Empty) L.length (tfS L) (λk=>k) (λk=>k<=L.length) (λe=>nomatch e) (λ_ e=>nomatch e) 0 rfl (ka L ω) rfl rfl ?_ (λk=>by cases k <;> exact⟨rfl,rfl⟩) (λe=>nomatch e) (Nat.zero_le _) rfl (λ_ h=>h) ?_ ?_ ?_ ?_ (λ_ e=>nomatch e));intro k xs hT;unfold kT at hT;split at hT;cases hT;rfl;cases hT;show SEntT _ (tf0 L ());rw[tf0.eq_1];exact s_t [(1,1),(2,3)];exact ae hcl ai
 ·intro l k xs hk hT
  unfold kT at hT;split at hT;rotate_left;cases hT;rename_i hlt;cases hT;obtain⟨x,hx⟩:∃x,x=L.getD (L.length- 1- k) 0:=⟨_,rfl⟩
  have hgx:L[L.length- 1- k]?=some x:=by
   rw[hx,List.getD_eq_getElem?_getD,List.getElem?_eq_getElem ω];rfl
  have hxb:x< 1000000000:=hLb x (List.mem_of_getElem? hgx)
  have htk:L.reverse.take (k+1)=L.reverse.take k++[x]:=by
   rw[List.take_add_one,List.getElem?_reverse ω,hgx];rfl
  have hit:=Hz x ω;have hdl9:=ye hxb;rw[<-hx];cases k with
  |zero=>
   show AWp _ _ _ _ ⟨ic (tf0 L ()).fr _ _++dP (tf0 L ()).fr,_,_,_⟩;show AWp _ _ _ _ ⟨[(13,u32 x),(12,i64 ((L.length- 1- 0:Nat):Int)),(1,.lptr 1 0 0),(3,.lptr 2 0 0),(11,.clos 211 [] [.aptr [[.arr (dE L)]] 0 0]),(1001,.lptr 1 0 0),(1003,.lptr 2 0 0),(1011,.clos 211 [] [.aptr [[.arr (dE L)]] 0 0])],[(1,some ⟨38,1,[[.arr (dE L)]]⟩),(2,some ⟨148,2,[dX 2 0 none]⟩)],4,31⟩;refine r_z 1 ?_;refine r_m 1 ?_;refine a_z ?_;refine ak (r_c 4 (hit) ?_);refine a_z ?_;refine ac (r_z 6 ?_);refine aw rfl (λh3=>?_) (λh3=>?_);exact absurd h3 χ;refine am (r_m 2 ?_);refine a_1 ?_;refine o_2 (.callB (s:=none) (j:=0) rfl rfl rfl rfl rfl rfl (λ_ h=>by cases h) (jt (Lib.decDigits x) (HQ x) ω)) ?_;refine ao ?_;refine⟨0+1,⟨ω,rfl⟩,?_⟩;have e:txD (L.reverse.take (0+1))=Lib.decDigits x:=by rw[htk];simp[txD]
   show SEntT _ ⟨dP (tf1 L (txD (L.reverse.take (0+1)))).fr,(tf1 L (txD (L.reverse.take (0+1)))).hp,_,_⟩;rw[e];show SEntT _ ⟨[(1001,.lptr 1 0 0),(1003,.lptr 2 0 0),(1011,.clos 211 [] [.aptr [[.arr (dE L)]] 0 0])],[(1,some ⟨38,1,[[.arr (dE L)]]⟩),(2,some ⟨148,2,[dX 2 3 (some (Lib.decDigits x))]⟩),(3,some ⟨5,1,bE (Lib.decDigits x)⟩)],4,31⟩;refine SEntT.to2 [(3,100017)] rfl rfl rfl yz (λhs=>?_) (λhs=>?_)
   ·repeat' (first|exact aF|refine aj rfl ?_ ?_)
    all_goals (first|(exact ah hs hcl2)|exact aX)
   ·repeat' (first|exact aD|refine bw rfl rfl rfl rfl ?_ ?_)
    all_goals (first|exact bG|(refine ay ?_;repeat' (first|exact ax|refine af ?_ ?_)))
    all_goals (first|(exact ah hs hcl2)|exact aX)
  |succ k=>
   obtain⟨q,hq⟩:∃q,q=txD (L.reverse.take (k+1)):=⟨_,rfl⟩
   have hrn:L.reverse.take (k+1)≠[]:=by
    intro e;have:=congrArg List.length e;rw[List.length_take,List.length_reverse] at this;simp only[List.length_nil] at this;omega
   have hql:q.length<=9* L.length:=by
    have h3:=CW (l:=L.reverse.take (k+1)) (λy hy=>hLb y (List.mem_reverse.1 (List.mem_of_mem_take hy)));have h4:(L.reverse.take (k+1)).length<=L.length:=χ
    rw[hq];omega
   show AWp _ _ _ _ ⟨ic (tf1 L (txD (L.reverse.take (k+1)))).fr _ _++dP (tf1 L (txD (L.reverse.take (k+1)))).fr,(tf1 L (txD (L.reverse.take (k+1)))).hp,4,_⟩;rw[<-hq];show AWp _ _ _ _ ⟨[(13,u32 x),(12,i64 ((L.length- 1- (k+1):Nat):Int)),(1,.lptr 1 0 0),(3,.lptr 2 0 0),(11,.clos 211 [] [.aptr [[.arr (dE L)]] 0 0]),(1001,.lptr 1 0 0),(1003,.lptr 2 0 0),(1011,.clos 211 [] [.aptr [[.arr (dE L)]] 0 0])],[(1,some ⟨38,1,[[.arr (dE L)]]⟩),(2,some ⟨148,2,[dX 2 3 (some q)]⟩),(3,some ⟨5,1,bE q⟩)],4,31⟩;refine r_z 1 ?_;refine r_m 1 ?_;refine a_z ?_;refine ak (r_c 4 (hit) ?_);refine a_z ?_;refine ac (r_z 6 ?_);refine aw rfl (λh3=>?_) (λh3=>?_);rotate_left;exact absurd (of_decide_eq_false h3) ω;have e9:((9:Int)- ((⟨(Lib.decDigits x).toArray⟩:ByteArray).size:Int))=((9- (Lib.decDigits x).length:Nat):Int):=by rw[na];omega
   have hrep:FS 160 [tx [48],.v (.int .i64 ((9:Int)- ((⟨(Lib.decDigits x).toArray⟩:ByteArray).size:Int)))] (tx (List.replicate (9- (Lib.decDigits x).length) 48)):=by
    rw[e9];exact Cd 48 (9- (Lib.decDigits x).length) ω
   refine r_m 5 ?_;refine o_0 (.move rfl) ?_;refine o_0 (.builtinV (vs:=[_]) rfl rfl (λ_ _ _=>rfl)) ?_;refine o_0 (.bin rfl rfl (iL (by rw[na];omega))) ?_;refine c_s (hrep) ?_;refine o_3 (.callB (s:=some _) rfl rfl rfl rfl rfl rfl (λ_ h=>by cases h;exact⟨rfl,δ⟩) (gx q (List.replicate (9- (Lib.decDigits x).length) 48) χ)) ?_;refine ao ?_;refine r_m 2 ?_;refine a_1 ?_;refine o_3 (.callB (s:=some _) rfl rfl rfl rfl rfl rfl (λ_ h=>by cases h;exact⟨rfl,δ⟩) (gx (q++List.replicate (9- (Lib.decDigits x).length) 48) (Lib.decDigits x) χ)) ?_;refine ao ?_;refine⟨k+1+1,⟨ω,rfl⟩,?_⟩
   have e:txD (L.reverse.take (k+1+1))=q++List.replicate (9- (Lib.decDigits x).length) 48++Lib.decDigits x:=by
    rw[htk,yI hrn,<-hq,List.append_assoc];rfl
   show SEntT _ ⟨dP (tf1 L (txD (L.reverse.take (k+1+1)))).fr,(tf1 L (txD (L.reverse.take (k+1+1)))).hp,_,_⟩;rw[e];show SEntT _ ⟨[(1001,.lptr 1 0 0),(1003,.lptr 2 0 0),(1011,.clos 211 [] [.aptr [[.arr (dE L)]] 0 0])],[(1,some ⟨38,1,[[.arr (dE L)]]⟩),(2,some ⟨148,2,[dX 2 3 (some (q++List.replicate (9- (Lib.decDigits x).length) 48++Lib.decDigits x))]⟩),(3,some ⟨5,1,bE (q++List.replicate (9- (Lib.decDigits x).length) 48++Lib.decDigits x)⟩)],4,31⟩;refine SEntT.to2 [(3,100022)] rfl rfl rfl yz (λhs=>?_) (λhs=>?_)
   ·repeat' (first|exact aF|refine aj rfl ?_ ?_)
    all_goals (first|(exact ah hs hcl2)|exact aX)
   ·repeat' (first|exact aD|refine bw rfl rfl rfl rfl ?_ ?_)
    all_goals (first|exact bG|(refine ay ?_;repeat' (first|exact ax|refine af ?_ ?_)))
    all_goals (first|(exact ah hs hcl2)|exact aX)
 ·intro k hk hT
  unfold kT at hT;split at hT;cases hT
  have hk1:k=L.length:=by
   rename_i hn;omega
  subst hk1;obtain⟨j,hj⟩:∃j,L.length=j+1:=⟨L.length- 1,ω⟩;refine⟨(),trivial,?_⟩;show SEnt (tfS L L.length) _;rw[hj];show SEnt (tf1 L (txD (L.reverse.take (j+1)))) _;rw[<-hj,List.take_of_length_le ψ];exact SEnt.refl _
 rintro _ _;rw[tf1.eq_1];have hne:txD L.reverse≠[]:=txD_ne (by simpa using hLn);refine s_r 2 ?_;refine o_2 (.callD rfl rfl rfl rfl rfl rfl δ (by first|assumption|simp) (rf)) ?_;refine a_z ?_;exact an (t_e (ag _))
theorem Du(m:Nat):(mtx m).length<=9* bl m+1:=by
 unfold mtx;split;simp;have h1:=CW (l:=(az MB m).reverse) λx hx=>dD (b:=MB) δ m x (List.mem_reverse.1 hx);have h2:=bR (b:=MB) δ m;rw[List.length_reverse] at h1;omega
def qtx(q:Rat):List UInt8:=((if q.num< 0 then [45] else [])++mtx q.num.natAbs)++(if q.den=1 then [] else 47::mtx q.den)
def quS(q:Rat):List UInt8->AState
 |l=>⟨[(1,.aptr [qC q] 0 0),(3,tx l)],[],2,24⟩
theorem EU(q:Rat)(h:qs q<=68719476736):FS 34 [.agg (qC q)] (tx (qtx q)):=by
 have hd1:=Du q.num.natAbs;have hd2:=Du q.den;have hden:1<=q.den:=q.den_pos;have hq1:=dB q;have hq2:=dp q;refine f_c Tryz.func34 ?_;refine r_z 2 ?_;refine AWp.ent (st':=⟨[(1,.aptr [qC q] 0 0)],[],2,24⟩) ?_ ?_;exact s_e [];refine r_c 5 (wl q.num.natAbs (Nat.le_trans (dB q) h)) ?_;refine a_z ?_;refine bi (quS q) (λl=>l=(if q.num< 0 then [45] else [])++mtx q.num.natAbs) ?_ ?_;refine r_z 3 ?_;refine aw rfl (λh1=>?_) (λh1=>?_);have h2:q.num< 0:=by simpa using h1
 refine r_m 3 ?_;refine a_1 ?_;refine o_0 (.bin rfl rfl (eQ (l:=[45]) χ)) ?_;refine a_z ?_;refine⟨_,by rw[if_pos h2],?_⟩;rw[quS.eq_1];exact s_x [] (λhs=>e_4) (λhs=>e_5);have h2:¬q.num< 0:=by simpa using h1
 refine am ⟨mtx q.num.natAbs,by rw[if_neg h2];rfl,?_⟩;rw[quS.eq_1];exact s_x [] (λhs=>e_4) (λhs=>e_5);rintro l hl;have hll:l.length<=618475290626:=by rw[hl];split <;> simp <;> omega
 rw[quS.eq_1];refine bi (quS q) (λl=>l=qtx q) ?_ ?_;refine r_c 4 (jH (q.den- 1)) ?_;refine a_z ?_;refine aw rfl (λh1=>?_) (λh1=>?_)
 have h2:¬q.den=1:=by
  intro e;rw[e] at h1;simp at h1
 refine r_m 7 ?_;refine c_s (ef q ω) ?_;refine c_s (wl q.den (Nat.le_trans (dp q) h)) ?_;refine o_0 (.bin rfl rfl (eQ (l:=[47]) χ)) ?_;refine o_0 (.bin rfl rfl (eQ χ)) ?_;refine a_z ?_;refine⟨_,by unfold qtx;rw[if_neg h2,<-hl],?_⟩;rw[quS.eq_1];exact s_x [] (λhs=>e_4) (λhs=>e_5)
 have h2:q.den=1:=by
  have h3:q.den- 1=0:=by simpa using h1
  omega
 refine am ⟨l,by unfold qtx;rw[if_pos h2,<-hl,List.append_nil],?_⟩;rw[quS.eq_1];exact s_x [] (λhs=>e_4) (λhs=>e_5);rintro l rfl;rw[quS.eq_1];refine r_z 2 ?_;exact an (t_e (ag _))
theorem pad9_pd{x:Nat}(h:x< 1000000000):Ek x=pd 9 x:=by
 by_cases h0:x=0;subst h0;decide+kernel;rw[Gq 9 x ω h];rfl
theorem CX:∀(n m:Nat),m<=n->0< m->txD (az MB m).reverse=Lib.decDigits m
 |0,m,h,h0=>by omega
 |n+1,m,h,h0=>by
  have hb:MB=1000000000:=rfl;rw[ez δ h0,List.reverse_cons];by_cases hm:m< MB;rw[Nat.div_eq_of_lt hm,cz,Nat.mod_eq_of_lt hm];simp[txD];have hd:0< m/ MB:=Nat.div_pos ω δ
  have hne:(az MB (m/ MB)).reverse≠[]:=λe=>by
   have:=(fC (b:=MB) δ).1 (List.reverse_eq_nil_iff.1 e);omega
  have hlt:m % MB< 1000000000:=Nat.mod_lt m δ;rw[yI hne,CX n (m/ MB) (by have:=Nat.div_lt_self h0 (by decide:1< MB);omega) hd,pad9_pd hlt,<-wy 9 (m/ MB) (m % MB) hd hlt];congr 1;show m/ 1000000000* 1000000000+m % 1000000000=m;omega
theorem Dw(m:Nat):mtx m=Lib.decDigits m:=by
 unfold mtx;split
 ·rename_i h;subst h;decide+kernel
 exact CX m m (Nat.le_refl _) ω
def ztx(z:Int):List UInt8:=(if z< 0 then [45] else [])++Lib.decDigits z.natAbs
theorem Gi(q:Rat):qtx q=ztx q.num++(if q.den=1 then [] else 47::Lib.decDigits q.den):=by
 unfold qtx ztx;rw[Dw,Dw]
theorem uN(n:Nat):(Lib.decDigits n).length<=bl n+1:=by
 rw[Lib.decDigits_length];have h:n< 10^ (bl n+1):=Nat.lt_of_lt_of_le (ud n) (Nat.le_trans (Nat.pow_le_pow_left (by decide:2<=10) _) (Nat.pow_le_pow_right δ ω));exact xo (bl n) n h
theorem first_text{c:UInt8}{l:List UInt8}:∀w,(Instr.index 9 (.string ⟨(c::l).toArray⟩) (.int .i64 0)).run Tryz.prog w= .ok (.int .u8 c.toNat) w:=λw=>by
 simp[Instr.index,asIntOf,run_underlying ig,go_sem];rfl
theorem Ec(c:UInt8)(l:List UInt8):∀w,(Instr.sliceAt 9 (.string ⟨(c::l).toArray⟩) (some (.int .i64 1)) none none).run Tryz.prog w= .ok (.string ⟨l.toArray⟩) w:=λw=>by
 have b1:∀(i y:Nat) (c:BoundsCode),i<=y->(Instr.sliceBound (.int .i64 (i:Int)) y c).run Tryz.prog w= .ok i w:=λi y c hi=>eu hi c w
 have e:(⟨(c::l).toArray⟩:ByteArray).extract 1 (⟨(c::l).toArray⟩:ByteArray).size=⟨l.toArray⟩:=by
  apply ByteArray.ext;simp[ByteArray.size]
 have hr:(Instr.slice 9 (.string ⟨(c::l).toArray⟩) (some (.int .i64 ((1:Nat):Int))) none none).run Tryz.prog w= .ok (.string ⟨l.toArray⟩) w:=by
  have hs:1<=(⟨(c::l).toArray⟩:ByteArray).size:=by simp[ByteArray.size]
  have b2:=b1 1 (⟨(c::l).toArray⟩:ByteArray).size .sliceB hs;rw[show((1:Nat):Int)=1 from rfl] at b2;simp[Instr.slice,run_underlying ig,Instr.sliceBounds,b2,Result.andThen,e]
 unfold Instr.sliceAt;rw[Sem.run_bind,run_underlying ig];exact hr
theorem HP(d:Nat)(zl zh:Int)(hd:d< 10)(el:zl=(d:Int))(eh:zh=(d:Int)+1):∀w,(Instr.sliceAt 9 (.string ⟨#[48,49,50,51,52,53,54,55,56,57]⟩) (some (.int .i64 zl)) (some (.int .i64 zh)) none).run Tryz.prog w= .ok (.string ⟨[UInt8.ofNat (48+d)].toArray⟩) w:=λw=>by
 rw[uP _ d (d+1) zl zh el ω ω (by exact Nat.le_trans (m:=10) ω δ) w];have key:∀d,d< 10->(ByteArray.mk #[48,49,50,51,52,53,54,55,56,57]).extract d (d+1)=⟨[UInt8.ofNat (48+d)].toArray⟩:=δ
 rw[key d hd]
theorem zd_sm{m:Nat}(h0:0< m)(h:m< 32768):zd m=[m]:=by
 have hb:UB=32768:=rfl;unfold zd;rw[ez δ h0,Nat.mod_eq_of_lt ω,Nat.div_eq_of_lt ω,cz];rfl
def ztO(z:Int)(n:Nat):Nat->AState
 |k=>⟨[(1,.aptr [zZ z] 0 0),(3,tx (pd (4* k) n)),(4,.arr (iE (zd (n/ 10^ (4* k)))))],[],2,51⟩
def ztI(z:Int)(r B:Nat)(T:List UInt8):Nat->AState
 |i=>⟨[(1,.aptr [zZ z] 0 0),(3,tx (pd i r++T)),(5,.arr (iE (zd B))),(7,i64 ((r/ 10^ i:Nat):Int)),(8,i64 i)],[],2,51⟩
def ztD(z:Int):List UInt8->AState
 |T=>⟨[(1,.aptr [zZ z] 0 0),(3,tx T)],[],2,51⟩
theorem Ad(z:Int)(h:bl z.natAbs<=68719476736):FS 124 [.agg (zZ z)] (tx (ztx z)):=by
 have hcz:Closed (.aptr [zZ z] 0 0):=aW (dV z);refine f_c Tryz.func124 ?_;refine r_z 2 ?_;refine AWp.ent (st':=⟨[(1,.aptr [zZ z] 0 0)],[],2,51⟩) ?_ ?_;exact s_e [];by_cases h0:z=0;subst h0;refine ac (s_r 3 ?_);refine a_2 ?_;refine o_0 (.bin rfl rfl (vT aM (δ))) ?_;refine ao ?_;refine aw rfl (λh1=>?_) (λh1=>?_);refine r_z 1 ?_;exact an (aR rfl (by rw[show ztx 0=[48] by unfold ztx;rw[Int.natAbs_zero,Lib.decDigits_one δ];rfl];rfl) (ag _));cases h1;refine ac (s_r 3 ?_);refine a_2 ?_;refine o_0 (.bin rfl rfl (vF aM ((by unfold sgZ;rw[if_neg h0];split <;> rfl)))) ?_;refine ao ?_;refine cF (am (r_z 1 ?_));refine r_z 3 ?_;obtain⟨n,hn⟩:∃n,n=z.natAbs:=⟨_,rfl⟩;have hn0:0< n:=ω
 rw[<-hn] at h;have hzd:=cP n;have hdl:=bR (b:=UB) δ n;refine bi (ztD z) (λT=> ∃k,T=pd k n/\n< 10^ k/\k<=4* (bl n+1)) ?_ ?_;refine ak (aC (ztO z n) (λk=>n/ 10^ (4* k)) (λk=>k=0\/0< n/ 10^ (4* (k- 1))) 0 (.inl rfl) ?_ ?_);simp only[ztO.eq_1];have e:n/ 10^ (4* 0)=n:=ψ
 rw[e,hn];exact s_f [];rintro k hk;simp only[ztO.eq_1];obtain⟨A,hA⟩:∃A,A=n/ 10^ (4* k):=⟨_,rfl⟩
 have hk4:4* k<=bl n+4:=by
  rcases hk with hk|hk
  omega
  have h1:10^ (4* (k- 1))<=n:=by
   apply Nat.le_of_not_lt;intro hlt;rw[Nat.div_eq_of_lt hlt] at hk;omega
  have h2:=ud n;have h3:2^ (4* (k- 1))<=10^ (4* (k- 1)):=Nat.pow_le_pow_left δ _;have h4:4* (k- 1)< bl n:=(Nat.pow_lt_pow_iff_right (a:=2) δ).1 (Nat.lt_of_le_of_lt (Nat.le_trans h3 h1) h2);omega
 rw[<-hA];have hAb:bl A<=68719476736:=Nat.le_trans (dL (by rw[hA];exact Nat.div_le_self _ _)) h;by_cases hA0:A=0;have hz:(zd A).length=0:=by rw[hA0,mT];rfl
 refine ac (q_z 3 ?_);refine cF (aB ⟨pd (4* k) n,⟨4* k,rfl,?_,ω⟩,?_⟩);rw[hA0] at hA;exact(Nat.div_eq_zero_iff.1 hA.symm).resolve_left (by have:=Nat.one_le_pow (4* k) 10 δ;omega);simp only[ztD.eq_1];exact s_f [];have hz:0< (zd A).length:=List.length_pos_iff.2 λe=>hA0 (zd_eq_nil.1 e);refine ac (q_z 3 ?_);refine cT (am (ak ?_));have hov:=pO A 10000 δ ω δ;rw[zd_sm δ (by decide:10000< 32768)] at hov;obtain⟨r,hr⟩:∃r,r=A % 10000:=⟨_,rfl⟩;obtain⟨B,hB⟩:∃B,B=A/ 10000:=⟨_,rfl⟩;rw[<-hr,<-hB] at hov;have hr4:r< 10000:=by rw[hr];exact Nat.mod_lt _ δ
 have hzr:(zd r).length<=4:=by
  rw[cP];exact eJ (b:=UB) δ (k:=4) (Nat.lt_trans hr4 δ)
 have hsh:=um (zd r) hzr (jb r);rw[jT] at hsh;obtain⟨T,hT⟩:∃T,T=pd (4* k) n:=⟨_,rfl⟩;have hTl:T.length=4* k:=by rw[hT,vY]
 rw[<-hT];refine s_r 8 ?_;refine a_2 ?_;refine o_1 (.callS1 rfl rfl rfl (.keep (.shut rfl d_n (.nil))) rfl (hov)) ?_;refine a_z ?_;refine r_c 3 (hsh) ?_;refine a_z ?_;refine ac (r_z 1 ?_);refine aG (ztI z r B T) (λi=>i=4) ?_ ?_;refine ak (aC (ztI z r B T) (λi=>4- i) (λi=>i<=4) 0 δ ?_ ?_);simp only[ztI.eq_1];have e:((r/ 10^ 0:Nat):Int)=r:=ψ
 rw[e];exact s_f [];rintro i hi;simp only[ztI.eq_1];by_cases h4:i< 4;refine ac (q_z 2 ?_);refine cT (am (ac (ak ?_)));obtain⟨c,hc⟩:∃c,c=r/ 10^ i:=⟨_,rfl⟩;rw[<-hc];have hcr:c<=r:=by rw[hc];exact Nat.div_le_self _ _
 have hsz:[UInt8.ofNat (48+c % 10)].length+(pd i r++T).length<=9223372036854775807:=by
  rw[List.length_append,vY,hTl];simp only[List.length_cons,List.length_nil];omega
 refine s_r 9 ?_;refine a_5 ?_;refine o_0 (.slice_v rfl rfl rfl rfl (HP (c % 10) _ _ ω ω ω)) ?_;refine a_1 ?_;refine o_0 (.bin rfl rfl (eQ (l:=[UInt8.ofNat (48+c % 10)]) (m:=pd i r++T) hsz)) ?_;refine a_z ?_;refine r_m 3 ?_;refine a_z ?_;refine r_m 3 ?_;refine a_z ?_;refine⟨i+1,ω,h4,?_⟩;have e1:pd (i+1) r++T=[UInt8.ofNat (48+c % 10)]++(pd i r++T):=by rw[Gp,<-hc];rfl
 have e2:((r/ 10^ (i+1):Nat):Int)=(c:Int) / 10:=by rw[Nat.pow_succ,<-Nat.div_div_eq_div_mul,<-hc];omega
 show SEnt _ ⟨[(1,.aptr [zZ z] 0 0),(3,tx (pd (i+1) r++T)),(5,.arr (iE (zd B))),(7,i64 ((r/ 10^ (i+1):Nat):Int)),(8,i64 ((i+1:Nat):Int))],[],2,_⟩;rw[e1,e2];exact s_f [];refine ac (q_z 2 ?_);refine cF (aB ⟨i,ω,?_⟩);simp only[ztI.eq_1];exact s_f [];rintro _ rfl;rw[ztI.eq_1];refine r_m 2 ?_;refine a_z ?_;have e0:n/ 10^ (4* (k+1))=B:=by rw[hB,hA,Nat.div_div_eq_div_mul,show 4* (k+1)=4* k+4 by omega,Nat.pow_add]
 refine⟨k+1,?_,.inr ?_,?_⟩;show n/ 10^ (4* (k+1))< A;rw[e0];omega;show 0< n/ 10^ (4* (k+1- 1));rw[Nat.add_sub_cancel,<-hA];omega
 have e1:pd (4* (k+1)) n=pd 4 r++T:=by
  rw[show 4* (k+1)=4+4* k by omega,Gr,<-hA,<-hT,hr];congr 1;exact(pd_mod 4 A).symm
 show SEnt _ ⟨[(1,.aptr [zZ z] 0 0),(3,tx (pd (4* (k+1)) n)),(4,.arr (iE (zd (n/ 10^ (4* (k+1))))))],[],2,_⟩;rw[e0,e1];exact s_f [];rintro T ⟨K,hT,hK,hKl⟩;have hdz:jJ T=Lib.decDigits n:=by rw[hT];exact Ay K n hn0 hK
 clear hT hK hKl;simp only[ztD.eq_1];refine bi (ztD z) (λT=>T=Lib.decDigits n) ?_ ?_;refine ak (aC (ztD z) (λT=>T.length) (λT=>jJ T=Lib.decDigits n) T hdz ?_ ?_);simp only[ztD.eq_1];exact s_f [];intro T hT;simp only[ztD.eq_1];cases T with
 |nil=>exact absurd hT.symm (qg n)
 |cons c T=>
  rw[jJ] at hT;by_cases hc:c=48;rw[if_pos hc] at hT;refine ac (s_r 3 ?_);refine a_1 ?_;refine o_0 (.index_s rfl rfl first_text) ?_;refine o_0 (.bin rfl rfl (vT aM ((by rw[hc];rfl)))) ?_;refine ao ?_;refine cT (am (ak (r_m 3 ?_)));refine a_1 ?_;refine o_0 (.slice_v rfl rfl rfl rfl (Ec c T)) ?_;refine a_z ?_;refine⟨T,ψ,hT,?_⟩;show SEnt _ ⟨[(1,.aptr [zZ z] 0 0),(3,tx T)],[],2,_⟩;exact s_f [];rw[if_neg hc] at hT
  have hne:(((c.toNat:Nat):Int)==48)=false:=by
   rw[beq_eq_false_iff_ne];intro e
   exact hc (UInt8.toNat_inj.1 (by have:c.toNat=48:=ω
                                   exact this))
  refine ac (s_r 3 ?_);refine a_1 ?_;refine o_0 (.index_s rfl rfl first_text) ?_;refine o_0 (.bin rfl rfl (vF aM (hne))) ?_;refine ao ?_;refine cF (aB ⟨c::T,hT,?_⟩);show SEnt _ ⟨[(1,.aptr [zZ z] 0 0),(3,tx (c::T))],[],2,_⟩;exact s_f []
 rintro T rfl;simp only[ztD.eq_1];have hdl2:=uN n;by_cases hneg:z< 0;refine ac (s_r 3 ?_);refine a_2 ?_;refine o_0 (.bin rfl rfl (vT aZ ((by unfold sgZ;rw[if_neg h0,if_pos hneg];rfl)))) ?_;refine ao ?_;refine cT (s_r 3 ?_);refine a_1 ?_;refine o_0 (.bin rfl rfl (eQ (l:=[45]) χ)) ?_;refine a_z ?_;exact an (aR rfl (by unfold ztx;rw[if_pos hneg,hn]) (ag _));refine ac (s_r 3 ?_);refine a_2 ?_;refine o_0 (.bin rfl rfl (vF aZ ((by unfold sgZ;rw[if_neg h0,if_neg hneg];rfl)))) ?_;refine ao ?_;refine cF (am (r_z 2 ?_));exact an (aR rfl (by unfold ztx;rw[if_neg hneg,hn];rfl) (ag _))
abbrev kX:=Int×Int×Nat
def nV(r:kX):Rat:=zu r.1 r.2.1 r.2.2
def nR(l:List kX):Lc:=l.map λr=>nuC r.1 r.2.1 r.2.2
def nL(l:List kX):Lq:=l.map nV
abbrev rL(l:Lq):Lc:=rE (l.map rq)
def okR(l:List kX):Prop:=∀r∈l,lZ r.1/\lZ r.2.1/\r.2.2<=255
theorem ew(l:List kX):∀e∈nR l,∀c∈e,Closed c:=by
 intro e he c hc;obtain⟨r,_,rfl⟩:=List.mem_map.1 he;exact lL _ _ _ c hc
theorem nI(l:Lq):∀e∈rL l,∀c∈e,Closed c:=b8 _
def liS(l:List kX):Lq->Nat->AState
 |[],i=>⟨[(0,.arr (nR l)),(4,.emp),(5,.emp),(6,i64 i)],[],1,33⟩
 |q::Q,i=>⟨[(0,.arr (nR l)),(4,.lsl 1 0 (Q.length+1) none 3),(5,.lsl 2 0 (Q.length+1) none 4),(6,i64 i)],[(1,some ⟨42,3,pE (q::Q)⟩),(2,some ⟨49,4,rL (q::Q)⟩)],3,33⟩
theorem pC(l:List kX)(i:Nat):liS l [] i=⟨[(0,.arr (nR l)),(4,.emp),(5,.emp),(6,i64 i)],[],1,33⟩:=rfl
theorem kJ(l:List kX)(q:Rat)(Q:Lq)(i:Nat):liS l (q::Q) i=⟨[(0,.arr (nR l)),(4,.lsl 1 0 (Q.length+1) none 3),(5,.lsl 2 0 (Q.length+1) none 4),(6,i64 i)],[(1,some ⟨42,3,pE (q::Q)⟩),(2,some ⟨49,4,rL (q::Q)⟩)],3,33⟩:=rfl
theorem fs_List(l:List kX)(hl:l.length<=1099511627776)(hb:okR l):FS 17 [.arr (nR l)] (.tup [.arr (pE (nL l)),.arr (rL (nL l))]):=by
 have hcr:∀q:Rat,∀e∈[rC (rq q)],∀c∈e,Closed c:=λq=>nI [q];refine f_n Tryz.func17 ?_ ?_;exact ae (aU (ew l)) ai;refine r_z 2 ?_;refine r_z 1 ?_;refine r_z 1 ?_;refine ac (r_z 1 ?_);refine aG (λ_:Unit=>liS l (nL l) l.length) (λ_=>True) ?_ ?_;refine ak (aC (λi:Nat=>liS l (nL (l.take i)) i) (λi=>l.length- i) (λi=>i<=l.length) 0 (Nat.zero_le _) ?_ ?_);show SEnt _ (liS l [] 0);rw[pC];have:=(aU (ew l));exact s_f [];rintro i hi;have hlen:(nR l).length=l.length:=by simp[nR]
 by_cases hlt:i< l.length
 ·obtain⟨n,hn⟩:∃n,l[i]?=some n:=⟨_,List.getElem?_eq_getElem hlt⟩
  have hgt:(nR l)[((i:Nat):Int).toNat]?=some (nuC n.1 n.2.1 n.2.2):=by
   show(nR l)[i]?=_;simp[nR,hn]
  obtain⟨hn1,hn2,hn3⟩:=hb n (List.mem_of_getElem? hn);have hbo:=HC n.1 n.2.1 n.2.2 hn1 hn2 hn3;obtain⟨v,hv⟩:∃v,v=zu n.1 n.2.1 n.2.2:=⟨_,rfl⟩;rw[<-hv] at hbo;have htk:nL (l.take (i+1))=nL (l.take i)++[v]:=by rw[dO hn];simp[nL,nV,hv]
  have hQl:(nL (l.take i)).length=i:=by simp[nL];omega
  cases hQ:nL (l.take i) with
  |nil=>
   simp only[pC];refine ac (r_z 4 ?_);refine aw rfl (λh=>?_) (λh=>?_);rotate_left;exact absurd h (by simp[nR];omega);refine am (ac (ak (s_r 12 ?_)));refine a_2 ?_;refine i_x hgt ?_;refine l_x hgt ?_;refine c_s (hbo) ?_;refine a_z ?_;refine r_d hmix 10 ?_;refine a_8 ?_;refine a_2 ?_;refine ao (n_k ?_);refine r_m 3 ?_;refine a_z ?_;refine⟨i+1,ω,hlt,?_⟩;simp only[htk,hQ,List.nil_append,kJ];refine s_x [(1,4),(2,5)] (λhs=>e_44) (λhs=>?_)
   ·repeat' (first|exact aD|refine h_c ?_ ?_|exact bZ hs (aJ [v])|exact bZ hs (nI [v])|exact bG|refine ay ?_|exact ax|refine af ?_ ?_|exact ah hs (aU (ew l))|exact aX)
  |cons q Q=>
   rw[hQ] at hQl;simp at hQl;simp only[kJ];refine ac (r_z 4 ?_);refine aw rfl (λh=>?_) (λh=>?_);rotate_left;exact absurd h (by simp[nR];omega);refine am (ac (ak (s_r 12 ?_)));refine a_2 ?_;refine i_x hgt ?_;refine l_x hgt ?_;refine c_s (hbo) ?_;refine a_z ?_;refine r_d hmix 10 ?_;refine a_8 ?_;refine a_2 ?_;refine ao (n_k ?_);refine r_m 3 ?_;refine a_z ?_;refine⟨i+1,ω,hlt,?_⟩;simp only[htk,hQ,List.cons_append,kJ];have e:pE (q::Q)++[qC v]=pE (q::(Q++[v])):=by simp[pE]
   have e2:rL (q::Q)++[rC (rq v)]=rL (q::(Q++[v])):=by simp[rE]
   refine s_x [(1,4),(2,5)] (λhs=>e_44) (λhs=>?_) e_2
   ·repeat' (first|exact aD|refine h_c ?_ ?_|exact aI hs e (aJ _)|exact aI hs e2 (nI _)|exact bG|refine ay ?_|exact ax|refine af ?_ ?_|exact ah hs (aU (ew l))|exact aX)
 have hge:i=l.length:=ω
 subst hge;simp only[List.take_length];cases hQ:nL l with
 |nil=>
  simp only[pC];refine ac (r_z 4 ?_);refine aw rfl (λh=>?_) (λh=>?_);exact absurd h (by simp[nR]);refine aB ⟨(),trivial,?_⟩;simp only[hQ,pC];have:=(aU (ew l));exact s_f []
 |cons q Q=>
  simp only[kJ];refine ac (r_z 4 ?_);refine aw rfl (λh=>?_) (λh=>?_);exact absurd h (by simp[nR]);refine aB ⟨(),trivial,?_⟩;simp only[hQ,kJ];have:=(aU (ew l));exact s_f []
 rintro _ _;cases hQ:nL l with
 |nil=>
  simp only[pC];refine r_z 4 ?_;refine an (Fin.many ⟨_,_,rfl,rfl,⟨_,_,rfl,rfl,rfl⟩⟩ (nle rfl) ?_);exact af (Cv.emp _) (af (Cv.emp _) ax)
 |cons q Q=>
  simp only[kJ];refine r_z 4 ?_;refine an (Fin.many ⟨_,_,rfl,rfl,⟨_,_,rfl,rfl,rfl⟩⟩ (nle rfl) ?_);exact af (Cv.sealE aE rfl (λ_ _ h=>by cases h) rfl ψ (aJ _)) (af (Cv.sealE aE rfl (λ_ _ h=>by cases h) rfl ψ (nI _)) ax)
end Go.Proofs.YtjgokhkahkmpbaaGreatDoor
