/- Part Y15 of the proof. -/
import Derived.Test.YtdjfjpeoddmamaaGreatDoorY14
import Derived.Shelf.Strings.Repeat
set_option linter.all false
namespace Go.Proofs.YtdjfjpeoddmamaaGreatDoor
open Go.Shelf
def jT_:Go.Shelf.Ren:=⟨fun|105=>240|212=>285|99=>286|165=>287|166=>171|170=>170|169=>173|263=>311|264=>312|206=>313|240=>241|241=>314|276=>288|277=>328|n=>n,fun|9=>9|3=>3|4=>4|20=>20|0=>0|46=>318|109=>319|5=>5|72=>223|76=>226|51=>236|146=>333|53=>235|148=>335|70=>220|37=>221|75=>225|127=>288|164=>323|80=>136|n=>n,fun|n=>n⟩
theorem lay105:Go.Proofs.Lays.n105 Tryz.prog jT_:={
 mixed:=by kernel_rfl,
 f99:=Tryz.func286.trans (congrArg some (by kernel_rfl)),
 f105:=Tryz.func240.trans (congrArg some (by kernel_rfl)),
 f165:=Tryz.func287.trans (congrArg some (by kernel_rfl)),
 f166:=Tryz.func171.trans (congrArg some (by kernel_rfl)),
 f169:=Tryz.func173.trans (congrArg some (by kernel_rfl)),
 f170:=Tryz.func170.trans (congrArg some (by kernel_rfl)),
 f206:=Tryz.func313.trans (congrArg some (by kernel_rfl)),
 f212:=Tryz.func285.trans (congrArg some (by kernel_rfl)),
 f240:=Tryz.func241.trans (congrArg some (by kernel_rfl)),
 f241:=Tryz.func314.trans (congrArg some (by kernel_rfl)),
 f263:=Tryz.func311.trans (congrArg some (by kernel_rfl)),
 f264:=Tryz.func312.trans (congrArg some (by kernel_rfl)),
 f276:=Tryz.func288.trans (congrArg some (by kernel_rfl)),
 f277:=Tryz.func328.trans (congrArg some (by kernel_rfl)),
 t0:=Tryz.underlying0,
 a0:=Tryz.isAgg0,
 z0:=Tryz.sizeOf0,
 v0:=Tryz.zeroValue0,
 t3:=Tryz.underlying3,
 a3:=Tryz.isAgg3,
 z3:=Tryz.sizeOf3,
 v3:=Tryz.zeroValue3,
 t4:=Tryz.underlying4,
 a4:=Tryz.isAgg4,
 z4:=Tryz.sizeOf4,
 v4:=Tryz.zeroValue4,
 t5:=Tryz.underlying5,
 a5:=Tryz.isAgg5,
 z5:=Tryz.sizeOf5,
 v5:=Tryz.zeroValue5,
 t9:=Tryz.underlying9,
 a9:=Tryz.isAgg9,
 z9:=Tryz.sizeOf9,
 v9:=Tryz.zeroValue9,
 t20:=Tryz.underlying20,
 a20:=Tryz.isAgg20,
 z20:=Tryz.sizeOf20,
 v20:=Tryz.zeroValue20,
 t37:=Tryz.underlying221,
 a37:=Tryz.isAgg221,
 z37:=Tryz.sizeOf221,
 v37:=Tryz.zeroValue221,
 t46:=Tryz.underlying318,
 a46:=Tryz.isAgg318,
 z46:=Tryz.sizeOf318,
 v46:=Tryz.zeroValue318,
 t51:=Tryz.underlying236,
 a51:=Tryz.isAgg236,
 z51:=Tryz.sizeOf236,
 v51:=Tryz.zeroValue236,
 t53:=Tryz.underlying235,
 a53:=Tryz.isAgg235,
 z53:=Tryz.sizeOf235,
 v53:=Tryz.zeroValue235,
 t70:=Tryz.underlying220,
 a70:=Tryz.isAgg220,
 z70:=Tryz.sizeOf220,
 v70:=Tryz.zeroValue220,
 t72:=Tryz.underlying223,
 a72:=Tryz.isAgg223,
 z72:=Tryz.sizeOf223,
 v72:=Tryz.zeroValue223,
 t75:=Tryz.underlying225,
 a75:=Tryz.isAgg225,
 z75:=Tryz.sizeOf225,
 v75:=Tryz.zeroValue225,
 t76:=Tryz.underlying226,
 a76:=Tryz.isAgg226,
 z76:=Tryz.sizeOf226,
 v76:=Tryz.zeroValue226,
 t109:=Tryz.underlying319,
 a109:=Tryz.isAgg319,
 z109:=Tryz.sizeOf319,
 v109:=Tryz.zeroValue319,
 t127:=Tryz.underlying288,
 a127:=Tryz.isAgg288,
 z127:=Tryz.sizeOf288,
 v127:=Tryz.zeroValue288,
 t146:=Tryz.underlying333,
 a146:=Tryz.isAgg333,
 z146:=Tryz.sizeOf333,
 v146:=Tryz.zeroValue333,
 t148:=Tryz.underlying335,
 a148:=Tryz.isAgg335,
 z148:=Tryz.sizeOf335,
 v148:=Tryz.zeroValue335,
 t164:=Tryz.underlying323,
 a164:=Tryz.isAgg323,
 z164:=Tryz.sizeOf323,
 v164:=Tryz.zeroValue323}
theorem ext105:Builder.Extra Tryz.prog jT_:={
 sizeBuilder:=by kernel_rfl,
 liesBuilder:=by kernel_rfl,
 t5:=Tryz.underlying5,
 a5:=Tryz.isAgg5,
 z5:=Tryz.sizeOf5,
 v5:=Tryz.zeroValue5,
 infoByte:=by kernel_rfl,
 cellsByte:=by kernel_rfl,
 sizeByte:=by kernel_rfl,
 neB5:=by decide}
end Go.Proofs.YtdjfjpeoddmamaaGreatDoor
namespace Go.Proofs.YtdjfjpeoddmamaaGreatDoor
open Go.Abs Go.RowKit
theorem tab_glob:(Tryz.prog).globalNamed "internal/strconv.uint64pow10" =some GT:=by kernel_rfl
theorem tab_is{w:World}(h:TabW w):Lib.TabIs Tryz.prog w "internal/strconv.uint64pow10" .u64 Lib.pow10Tab:=by
 obtain⟨t,z,h⟩:=h
 unfold Lib.TabIs World.var?
 rw[tab_glob]
 show(match w.heap[GT]? with|some (.cells cs _ _)=>some cs|_=>none)=_
 rw[h];rfl
theorem pS_(w:World)(k:Nat)(os:Array Obj):Below w.heap.size w (Sort.grow (w.drewN k) os):=
 ⟨rfl,rfl,rfl,by show w.heap.size≤(w.heap++os).size;simp,fun i hi=>by show(w.heap++os)[i]?=_;rw[Array.getElem?_append_left hi]⟩
theorem fs_ItoaA(n:Nat)(h:n≤9223372036854775807):FSpec Tryz.prog 172 [i64 n] (tx (Lib.decDigits n)):=by
 refine⟨aa_ (ad_ _) ab_,(nj_ 0 (by decide)).enters,fun M w vals hM hargs=>?_⟩
 obtain⟨x,xs,rfl,hx,hxs⟩:=hargs
 have hx':x= .int .i64 n:=hx
 have hxs':xs=[]:=hxs
 subst hx';subst hxs'
 have hc:=Any.strconv_Itoa lay171 (n:Int) (by omega) (by omega) w (tab_is hM.tab)
 refine Calls.mono hc fun e w' ⟨he,k,os,hw⟩=>⟨_,he,?_,?_⟩
 show Value.string _=Value.string _
 unfold Lib.itoa
 rw[if_neg (by omega),Int.toNat_natCast]
 rw[hw];exact pS_ w k os
theorem pC_(z:UInt8)(n:Nat)(h:n≤100):FSpec Tryz.prog 240 [tx [z],i64 n] (tx (List.replicate n z)):=by
 have en:∀(xs:Array Value) (w:World),(callFunc 240 xs).run Tryz.prog w= .ok (.enter 240 xs) w:=fun xs w=>i4_ Tryz.func240 (c:=(Tryz.f240).body.get rfl) (by kernel_rfl) rfl xs w
 refine⟨aa_ (ad_ _) (aa_ (ad_ _) ab_),en,fun M w vals hM hargs=>?_⟩
 obtain⟨x,xs,rfl,hx,y,ys,rfl,hy,hxs⟩:=hargs
 have hx':x= .string ⟨[z].toArray⟩:=hx
 have hy':y= .int .i64 n:=hy
 have hxs':ys=[]:=hxs
 subst hx';subst hy';subst hxs'
 have hc:=Any.strings_Repeat lay105 ext105 ⟨[z].toArray⟩ n w (by omega) (by simp[ByteArray.size];omega)
 refine Calls.mono hc fun e w' ⟨he,hb⟩=>⟨_,he,?_,hb⟩
 show Value.string _=Value.string _
 congr 2
 have:∀k,Lib.repeatL [z] k=List.replicate k z:=fun k=>by
  induction k with
  |zero=>rfl
  |succ k ih=>rw[Lib.repeatL,ih,List.replicate_succ];rfl
 exact congrArg List.toArray (this n)
end Go.Proofs.YtdjfjpeoddmamaaGreatDoor
namespace Go.Proofs.YtdjfjpeoddmamaaGreatDoor
open Go.Abs
set_option maxRecDepth 20000
set_option maxHeartbeats 1000000
def pad9(n:Nat):List UInt8:=List.replicate (9- (Lib.decDigits n).length) 48++Lib.decDigits n
def txD:List Nat→List UInt8
 |[]=>[]
 |x::xs=>Lib.decDigits x++xs.flatMap pad9
def mtx(m:Nat):List UInt8:=if m=0 then [48] else txD (digs MB m).reverse
theorem nN_{l:List Nat}(h:l≠[])(x:Nat):txD (l++[x])=txD l++pad9 x:=by
 cases l with
 |nil=>exact absurd rfl h
 |cons a l=>simp[txD]
theorem mY_:∀k n,n< 10^ (k+1)→Lib.nDigits n≤k+1
 |0,n,h=>by rw[Lib.nDigits_small (by simpa using h)];omega
 |k+1,n,h=>by
  by_cases h1:n< 10
  rw[Lib.nDigits_small h1];omega
  rw[Lib.nDigits_big h1]
  have:n/ 10< 10^ (k+1):=by rw[Nat.pow_succ] at h;omega
  have:=mY_ k (n/ 10) this
  omega
theorem nz_{n:Nat}(h:n< 1000000000):(Lib.decDigits n).length≤9:=by
 rw[Lib.decDigits_length];exact mY_ 8 n h
theorem dec_ne(n:Nat):Lib.decDigits n≠[]:=by
 intro e
 have h1:=Lib.decDigits_length n
 rw[e] at h1
 have:=Lib.nDigits_pos n
 simp at h1;omega
theorem pad9_len{n:Nat}(h:n< 1000000000):(pad9 n).length=9:=by
 have:=nz_ h
 simp[pad9];omega
theorem txD_ne{l:List Nat}(h:l≠[]):txD l≠[]:=by
 cases l with
 |nil=>exact absurd rfl h
 |cons a l=>intro e;exact dec_ne a (List.append_eq_nil_iff.1 e).1
theorem p4_{l:List Nat}(h:∀x∈l,x< 1000000000):(txD l).length≤9* l.length:=by
 cases l with
 |nil=>simp[txD]
 |cons a l=>
  have h1:=nz_ (h a (List.mem_cons_self ..))
  have h2:∀l:List Nat,(∀x∈l,x< 1000000000)→(l.flatMap pad9).length=9* l.length:=by
   intro l
   induction l with
   |nil=>intro _;rfl
   |cons b l ih=>
    intro h
    rw[List.flatMap_cons,List.length_append,pad9_len (h b (List.mem_cons_self ..)),ih fun x hx=>h x (List.mem_cons_of_mem _ hx),List.length_cons]
    omega
  have h3:=h2 l fun x hx=>h x (List.mem_cons_of_mem _ hx)
  simp only[txD,List.length_append,List.length_cons]
  omega
def tf0(L:List Nat):Unit→AState
 |u=>⟨[(1,.lptr 1 0 0),(3,.lptr 2 0 0),(11,.clos 284 [] [.aptr [[.arr (dE L)]] 0 0])],[(1,some ⟨31,1,[[.arr (dE L)]]⟩),(2,some ⟨223,2,[bldC 2 0 none]⟩)],4,31⟩
def tf1(L:List Nat):List UInt8→AState
 |q=>⟨[(1,.lptr 1 0 0),(3,.lptr 2 0 0),(11,.clos 284 [] [.aptr [[.arr (dE L)]] 0 0])],[(1,some ⟨31,1,[[.arr (dE L)]]⟩),(2,some ⟨223,2,[bldC 2 3 (some q)]⟩),(3,some ⟨5,1,bE q⟩)],4,31⟩
def tfS(L:List Nat):Nat→AState
 |0=>tf0 L ()
 |k+1=>tf1 L (txD (L.reverse.take (k+1)))
theorem l0_(m:Nat)(h:bl m≤68719476736):FSpec Tryz.prog 168 [.agg [mag m]] (tx (mtx m)):=by
 have hz:=eI_ m
 refine f_n Tryz.func168 ?_ ?_
 exact aa_ (aq_ (aa_ (aQ_ m) ab_)) ab_
 refine r_z 2 ?_
 refine ac_ (r_c 2 (hz) ?_)
 refine an_ ?_
 refine am_ rfl (fun h1=>?_) (fun h1=>?_)
 have h2:m=0:=by simpa using h1
 subst h2
 refine r_z 1 ?_
 exact aj_ (t_e (ad_ _))
 have h2:m≠0:=by simpa using h1
 obtain⟨L,hL⟩:∃L,L=digs MB m:=⟨_,rfl⟩
 have hm:mag m= .arr (dE L):=by unfold mag;rw[hL]
 have hLl:L.length≤68719476736:=by
  rw[hL];exact Nat.le_trans (a6_ (b:=MB) (by decide) m) h
 have hLb:∀x∈L,x< 1000000000:=by rw[hL];exact b0_ (b:=MB) (by decide) m
 have hLn:L≠[]:=by rw[hL];exact fun e=>h2 ((cZ_ (b:=MB) (by decide)).1 e)
 have hn1:=List.length_pos_iff.2 hLn
 rw[show mtx m=txD L.reverse by unfold mtx;rw[if_neg h2,hL]]
 clear hz
 rw[hm]
 refine ah_ ?_
 have hcl:Closed (.aptr [[.arr (dE L)]] 0 0):=cJ_ (fun e he c hc=>by simp at he;subst he;simp at hc;subst hc;exact by_ _)
 have hcl2:Closed (.clos 284 [] [.aptr [[.arr (dE L)]] 0 0]):=aT_ ab_ (aa_ hcl ab_)
 have hdl:(dE L).length=L.length:=gF_ L
 refine r_z 1 ?_
 refine ac_ (r_c 3 (eJ_ L) ?_)
 refine an_ ?_
 refine aB_ (fun _:Unit=>tf1 L (txD L.reverse)) (fun _=>True) ?_ ?_
 refine ag_ (AWp.rangeFunc (α:=Nat) (γ:=Empty) L.length (tfS L) (fun k=>k) (fun k=>k≤L.length) (fun e=>nomatch e) (fun _ e=>nomatch e) 0 rfl (eG_ L (by omega)) rfl rfl ?_ (fun k=>by cases k <;> exact⟨rfl,rfl⟩) (fun e=>nomatch e) (Nat.zero_le _) rfl (fun _ h=>h) ?_ ?_ ?_ ?_ (fun _ e=>nomatch e))
 intro k xs hT
 unfold backT at hT
 split at hT
 cases hT;rfl
 cases hT
 show SEntT _ (tf0 L ())
 rw[tf0.eq_1]
 exact s_t [(1,1),(2,3)]
 exact aa_ hcl ab_
 ·intro l k xs hk hT
  unfold backT at hT
  split at hT
  rotate_left
  cases hT
  rename_i hlt
  cases hT
  obtain⟨x,hx⟩:∃x,x=L.getD (L.length- 1- k) 0:=⟨_,rfl⟩
  have hgx:L[L.length- 1- k]?=some x:=by
   rw[hx,List.getD_eq_getElem?_getD,List.getElem?_eq_getElem (by omega)];rfl
  have hxb:x< 1000000000:=hLb x (List.mem_of_getElem? hgx)
  have htk:L.reverse.take (k+1)=L.reverse.take k++[x]:=by
   rw[List.take_add_one,List.getElem?_reverse (by omega),hgx];rfl
  have hit:=fs_ItoaA x (by omega)
  have hdl9:=nz_ hxb
  rw[←hx]
  cases k with
  |zero=>
   show AWp _ _ _ _ ⟨setPs (tf0 L ()).fr _ _++cf_ (tf0 L ()).fr,_,_,_⟩
   show AWp _ _ _ _ ⟨[(13,u32 x),(12,i64 ((L.length- 1- 0:Nat):Int)),(1,.lptr 1 0 0),(3,.lptr 2 0 0),(11,.clos 284 [] [.aptr [[.arr (dE L)]] 0 0]),(1001,.lptr 1 0 0),(1003,.lptr 2 0 0),(1011,.clos 284 [] [.aptr [[.arr (dE L)]] 0 0])],[(1,some ⟨31,1,[[.arr (dE L)]]⟩),(2,some ⟨223,2,[bldC 2 0 none]⟩)],4,31⟩
   refine r_z 1 ?_
   refine r_m 1 ?_
   refine a_z ?_
   refine ag_ (r_c 4 (hit) ?_)
   refine a_z ?_
   refine ac_ (r_z 6 ?_)
   refine am_ rfl (fun h3=>?_) (fun h3=>?_)
   exact absurd h3 (by simp;omega)
   refine ah_ (r_m 2 ?_)
   refine a_1 ?_
   refine o_2 (.callB (s:=none) (j:=0) rfl rfl rfl rfl rfl rfl (fun _ h=>by cases h) (et_ (Lib.decDigits x) (dec_ne x) (by omega))) ?_
   refine an_ ?_
   refine⟨0+1,⟨by omega,rfl⟩,?_⟩
   have e:txD (L.reverse.take (0+1))=Lib.decDigits x:=by rw[htk];simp[txD]
   show SEntT _ ⟨cf_ (tf1 L (txD (L.reverse.take (0+1)))).fr,(tf1 L (txD (L.reverse.take (0+1)))).hp,_,_⟩
   rw[e]
   show SEntT _ ⟨[(1001,.lptr 1 0 0),(1003,.lptr 2 0 0),(1011,.clos 284 [] [.aptr [[.arr (dE L)]] 0 0])],[(1,some ⟨31,1,[[.arr (dE L)]]⟩),(2,some ⟨223,2,[bldC 2 3 (some (Lib.decDigits x))]⟩),(3,some ⟨5,1,bE (Lib.decDigits x)⟩)],4,31⟩
   refine SEntT.to2 [(3,100017)] rfl rfl rfl au_r (fun hs=>?_) (fun hs=>?_)
   ·repeat' (first|exact aA_|refine au_ rfl ?_ ?_)
    all_goals (first|(exact ak_ hs hcl2)|exact au_c)
   ·repeat' (first|exact ap_|refine al_ rfl rfl rfl rfl ?_ ?_)
    all_goals (first|exact au_e|(refine ae_ ?_;repeat' (first|exact ao_|refine af_ ?_ ?_)))
    all_goals (first|(exact ak_ hs hcl2)|exact au_c)
  |succ k=>
   obtain⟨q,hq⟩:∃q,q=txD (L.reverse.take (k+1)):=⟨_,rfl⟩
   have hrn:L.reverse.take (k+1)≠[]:=by
    intro e
    have:=congrArg List.length e
    rw[List.length_take,List.length_reverse] at this
    simp only[List.length_nil] at this;omega
   have hql:q.length≤9* L.length:=by
    have h3:=p4_ (l:=L.reverse.take (k+1)) (fun y hy=>hLb y (List.mem_reverse.1 (List.mem_of_mem_take hy)))
    have h4:(L.reverse.take (k+1)).length≤L.length:=by simp;omega
    rw[hq];omega
   show AWp _ _ _ _ ⟨setPs (tf1 L (txD (L.reverse.take (k+1)))).fr _ _++cf_ (tf1 L (txD (L.reverse.take (k+1)))).fr,(tf1 L (txD (L.reverse.take (k+1)))).hp,4,_⟩
   rw[←hq]
   show AWp _ _ _ _ ⟨[(13,u32 x),(12,i64 ((L.length- 1- (k+1):Nat):Int)),(1,.lptr 1 0 0),(3,.lptr 2 0 0),(11,.clos 284 [] [.aptr [[.arr (dE L)]] 0 0]),(1001,.lptr 1 0 0),(1003,.lptr 2 0 0),(1011,.clos 284 [] [.aptr [[.arr (dE L)]] 0 0])],[(1,some ⟨31,1,[[.arr (dE L)]]⟩),(2,some ⟨223,2,[bldC 2 3 (some q)]⟩),(3,some ⟨5,1,bE q⟩)],4,31⟩
   refine r_z 1 ?_
   refine r_m 1 ?_
   refine a_z ?_
   refine ag_ (r_c 4 (hit) ?_)
   refine a_z ?_
   refine ac_ (r_z 6 ?_)
   refine am_ rfl (fun h3=>?_) (fun h3=>?_)
   rotate_left
   exact absurd (of_decide_eq_false h3) (by omega)
   have e9:((9:Int)- ((⟨(Lib.decDigits x).toArray⟩:ByteArray).size:Int))=((9- (Lib.decDigits x).length:Nat):Int):=by rw[gY_];omega
   have hrep:FSpec Tryz.prog 240 [tx [48],.v (.int .i64 ((9:Int)- ((⟨(Lib.decDigits x).toArray⟩:ByteArray).size:Int)))] (tx (List.replicate (9- (Lib.decDigits x).length) 48)):=by
    rw[e9];exact pC_ 48 (9- (Lib.decDigits x).length) (by omega)
   refine r_m 5 ?_
   refine o_0 (.move rfl) ?_
   refine o_0 (.builtinV (vs:=[_]) rfl rfl (fun _ _ _=>rfl)) ?_
   refine o_0 (.bin rfl rfl (gP_ (by rw[gY_];omega))) ?_
   refine c_s (hrep) ?_
   refine o_3 (.callB (s:=some _) rfl rfl rfl rfl rfl rfl (fun _ h=>by cases h;exact⟨rfl,by decide⟩) (dv_ q (List.replicate (9- (Lib.decDigits x).length) 48) (by simp;omega))) ?_
   refine an_ ?_
   refine r_m 2 ?_
   refine a_1 ?_
   refine o_3 (.callB (s:=some _) rfl rfl rfl rfl rfl rfl (fun _ h=>by cases h;exact⟨rfl,by decide⟩) (dv_ (q++List.replicate (9- (Lib.decDigits x).length) 48) (Lib.decDigits x) (by simp;omega))) ?_
   refine an_ ?_
   refine⟨k+1+1,⟨by omega,rfl⟩,?_⟩
   have e:txD (L.reverse.take (k+1+1))=q++List.replicate (9- (Lib.decDigits x).length) 48++Lib.decDigits x:=by
    rw[htk,nN_ hrn,←hq,List.append_assoc];rfl
   show SEntT _ ⟨cf_ (tf1 L (txD (L.reverse.take (k+1+1)))).fr,(tf1 L (txD (L.reverse.take (k+1+1)))).hp,_,_⟩
   rw[e]
   show SEntT _ ⟨[(1001,.lptr 1 0 0),(1003,.lptr 2 0 0),(1011,.clos 284 [] [.aptr [[.arr (dE L)]] 0 0])],[(1,some ⟨31,1,[[.arr (dE L)]]⟩),(2,some ⟨223,2,[bldC 2 3 (some (q++List.replicate (9- (Lib.decDigits x).length) 48++Lib.decDigits x))]⟩),(3,some ⟨5,1,bE (q++List.replicate (9- (Lib.decDigits x).length) 48++Lib.decDigits x)⟩)],4,31⟩
   refine SEntT.to2 [(3,100022)] rfl rfl rfl au_r (fun hs=>?_) (fun hs=>?_)
   ·repeat' (first|exact aA_|refine au_ rfl ?_ ?_)
    all_goals (first|(exact ak_ hs hcl2)|exact au_c)
   ·repeat' (first|exact ap_|refine al_ rfl rfl rfl rfl ?_ ?_)
    all_goals (first|exact au_e|(refine ae_ ?_;repeat' (first|exact ao_|refine af_ ?_ ?_)))
    all_goals (first|(exact ak_ hs hcl2)|exact au_c)
 ·intro k hk hT
  unfold backT at hT
  split at hT
  cases hT
  have hk1:k=L.length:=by
   rename_i hn;omega
  subst hk1
  obtain⟨j,hj⟩:∃j,L.length=j+1:=⟨L.length- 1,by omega⟩
  refine⟨(),trivial,?_⟩
  show SEnt (tfS L L.length) _
  rw[hj]
  show SEnt (tf1 L (txD (L.reverse.take (j+1)))) _
  rw[←hj,List.take_of_length_le (by simp)]
  exact SEnt.refl _
 rintro _ _
 rw[tf1.eq_1]
 have hne:txD L.reverse≠[]:=txD_ne (by simpa using hLn)
 refine s_r 2 ?_
 refine o_2 (.callD rfl rfl rfl rfl rfl rfl (by decide) (by first|assumption|simp) (i5_)) ?_
 refine a_z ?_
 exact aj_ (t_e (ad_ _))
theorem qQ_(m:Nat):(mtx m).length≤9* bl m+1:=by
 unfold mtx
 split
 simp
 have h1:=p4_ (l:=(digs MB m).reverse) fun x hx=>b0_ (b:=MB) (by decide) m x (List.mem_reverse.1 hx)
 have h2:=a6_ (b:=MB) (by decide) m
 rw[List.length_reverse] at h1
 omega
def qtx(q:Rat):List UInt8:=((if q.num< 0 then [45] else [])++mtx q.num.natAbs)++(if q.den=1 then [] else 47::mtx q.den)
def quS(q:Rat):List UInt8→AState
 |l=>⟨[(1,.aptr [qC q] 0 0),(3,tx l)],[],2,24⟩
theorem rI_(q:Rat)(h:qs q≤68719476736):FSpec Tryz.prog 74 [.agg (qC q)] (tx (qtx q)):=by
 have hd1:=qQ_ q.num.natAbs
 have hd2:=qQ_ q.den
 have hden:1≤q.den:=q.den_pos
 have hq1:=b6_ q
 have hq2:=bW_ q
 refine f_n Tryz.func74 ?_ ?_
 exact aa_ (az_ q) ab_
 refine r_z 2 ?_
 refine AWp.ent (st':=⟨[(1,.aptr [qC q] 0 0)],[],2,24⟩) ?_ ?_
 exact s_e []
 refine r_c 5 (l0_ q.num.natAbs (Nat.le_trans (b6_ q) h)) ?_
 refine a_z ?_
 refine aU_ (quS q) (fun l=>l=(if q.num< 0 then [45] else [])++mtx q.num.natAbs) ?_ ?_
 refine r_z 3 ?_
 refine am_ rfl (fun h1=>?_) (fun h1=>?_)
 have h2:q.num< 0:=by simpa using h1
 refine r_m 3 ?_
 refine a_1 ?_
 refine o_0 (.bin rfl rfl (cM_ (l:=[45]) (by simp;omega))) ?_
 refine a_z ?_
 refine⟨_,by rw[if_pos h2],?_⟩
 rw[quS.eq_1]
 refine ar_ [] rfl rfl rfl au_r (fun hs=>?_) (fun hs=>?_)
 ·repeat' (first|exact aA_|refine au_ rfl ?_ ?_)
  all_goals (first|(exact ak_ hs (ai_ (aO_ q)))|exact au_c)
 ·repeat' (first|exact ap_|refine al_ rfl rfl rfl rfl ?_ ?_)
  all_goals (first|exact au_e|(refine ae_ ?_;repeat' (first|exact ao_|refine af_ ?_ ?_)))
  all_goals (first|(exact ak_ hs (ai_ (aO_ q)))|exact au_c)
 have h2:¬q.num< 0:=by simpa using h1
 refine ah_ ⟨mtx q.num.natAbs,by rw[if_neg h2];rfl,?_⟩
 rw[quS.eq_1]
 refine ar_ [] rfl rfl rfl au_r (fun hs=>?_) (fun hs=>?_)
 ·repeat' (first|exact aA_|refine au_ rfl ?_ ?_)
  all_goals (first|(exact ak_ hs (ai_ (aO_ q)))|exact au_c)
 ·repeat' (first|exact ap_|refine al_ rfl rfl rfl rfl ?_ ?_)
  all_goals (first|exact au_e|(refine ae_ ?_;repeat' (first|exact ao_|refine af_ ?_ ?_)))
  all_goals (first|(exact ak_ hs (ai_ (aO_ q)))|exact au_c)
 rintro l hl
 have hll:l.length≤618475290626:=by rw[hl];split <;> simp <;> omega
 rw[quS.eq_1]
 refine aU_ (quS q) (fun l=>l=qtx q) ?_ ?_
 refine r_c 4 (eI_ (q.den- 1)) ?_
 refine a_z ?_
 refine am_ rfl (fun h1=>?_) (fun h1=>?_)
 have h2:¬q.den=1:=by
  intro e;rw[e] at h1;simp at h1
 refine r_m 7 ?_
 refine c_s (cr_ q (by omega)) ?_
 refine c_s (l0_ q.den (Nat.le_trans (bW_ q) h)) ?_
 refine o_0 (.bin rfl rfl (cM_ (l:=[47]) (by simp;omega))) ?_
 refine o_0 (.bin rfl rfl (cM_ (by simp;omega))) ?_
 refine a_z ?_
 refine⟨_,by unfold qtx;rw[if_neg h2,←hl],?_⟩
 rw[quS.eq_1]
 refine ar_ [] rfl rfl rfl au_r (fun hs=>?_) (fun hs=>?_)
 ·repeat' (first|exact aA_|refine au_ rfl ?_ ?_)
  all_goals (first|(exact ak_ hs (ai_ (aO_ q)))|exact au_c)
 ·repeat' (first|exact ap_|refine al_ rfl rfl rfl rfl ?_ ?_)
  all_goals (first|exact au_e|(refine ae_ ?_;repeat' (first|exact ao_|refine af_ ?_ ?_)))
  all_goals (first|(exact ak_ hs (ai_ (aO_ q)))|exact au_c)
 have h2:q.den=1:=by
  have h3:q.den- 1=0:=by simpa using h1
  omega
 refine ah_ ⟨l,by unfold qtx;rw[if_pos h2,←hl,List.append_nil],?_⟩
 rw[quS.eq_1]
 refine ar_ [] rfl rfl rfl au_r (fun hs=>?_) (fun hs=>?_)
 ·repeat' (first|exact aA_|refine au_ rfl ?_ ?_)
  all_goals (first|(exact ak_ hs (ai_ (aO_ q)))|exact au_c)
 ·repeat' (first|exact ap_|refine al_ rfl rfl rfl rfl ?_ ?_)
  all_goals (first|exact au_e|(refine ae_ ?_;repeat' (first|exact ao_|refine af_ ?_ ?_)))
  all_goals (first|(exact ak_ hs (ai_ (aO_ q)))|exact au_c)
 rintro l rfl
 rw[quS.eq_1]
 refine r_z 2 ?_
 exact aj_ (t_e (ad_ _))
theorem pad9_pd{x:Nat}(h:x< 1000000000):pad9 x=pd 9 x:=by
 by_cases h0:x=0
 subst h0;decide+kernel
 rw[pd_dec 9 x (by omega) h];rfl
theorem p5_:∀(n m:Nat),m≤n→0< m→txD (digs MB m).reverse=Lib.decDigits m
 |0,m,h,h0=>by omega
 |n+1,m,h,h0=>by
  have hb:MB=1000000000:=rfl
  rw[cA_ (by decide) h0,List.reverse_cons]
  by_cases hm:m< MB
  rw[Nat.div_eq_of_lt hm,bo_,Nat.mod_eq_of_lt hm];simp[txD]
  have hd:0< m/ MB:=Nat.div_pos (by omega) (by decide)
  have hne:(digs MB (m/ MB)).reverse≠[]:=fun e=>by
   have:=(cZ_ (b:=MB) (by decide)).1 (List.reverse_eq_nil_iff.1 e)
   omega
  have hlt:m % MB< 1000000000:=Nat.mod_lt m (by decide)
  rw[nN_ hne,p5_ n (m/ MB) (by have:=Nat.div_lt_self h0 (by decide:1< MB);omega) hd,pad9_pd hlt,←mr_ 9 (m/ MB) (m % MB) hd hlt]
  congr 1
  show m/ 1000000000* 1000000000+m % 1000000000=m
  omega
theorem qR_(m:Nat):mtx m=Lib.decDigits m:=by
 unfold mtx
 split
 ·rename_i h;subst h;decide+kernel
 exact p5_ m m (Nat.le_refl _) (by omega)
def ztx(z:Int):List UInt8:=(if z< 0 then [45] else [])++Lib.decDigits z.natAbs
theorem qtx_eq(q:Rat):qtx q=ztx q.num++(if q.den=1 then [] else 47::Lib.decDigits q.den):=by
 unfold qtx ztx
 rw[qR_,qR_]
theorem j7_(n:Nat):(Lib.decDigits n).length≤bl n+1:=by
 rw[Lib.decDigits_length]
 have h:n< 10^ (bl n+1):=Nat.lt_of_lt_of_le (lt_bl n) (Nat.le_trans (Nat.pow_le_pow_left (by decide:2≤10) _) (Nat.pow_le_pow_right (by decide) (by omega)))
 exact mY_ (bl n) n h
theorem first_text{c:UInt8}{l:List UInt8}:∀w,(Instr.index 9 (.string ⟨(c::l).toArray⟩) (.int .i64 0)).run Tryz.prog w= .ok (.int .u8 c.toNat) w:=fun w=>by
 simp[Instr.index,asIntOf,run_underlying dM_,go_sem]
 rfl
theorem qc_(c:UInt8)(l:List UInt8):∀w,(Instr.sliceAt 9 (.string ⟨(c::l).toArray⟩) (some (.int .i64 1)) none none).run Tryz.prog w= .ok (.string ⟨l.toArray⟩) w:=fun w=>by
 have b1:∀(i y:Nat) (c:BoundsCode),i≤y→(Instr.sliceBound (.int .i64 (i:Int)) y c).run Tryz.prog w= .ok i w:=fun i y c hi=>cq_ hi c w
 have e:(⟨(c::l).toArray⟩:ByteArray).extract 1 (⟨(c::l).toArray⟩:ByteArray).size=⟨l.toArray⟩:=by
  apply ByteArray.ext;simp[ByteArray.size]
 have hr:(Instr.slice 9 (.string ⟨(c::l).toArray⟩) (some (.int .i64 ((1:Nat):Int))) none none).run Tryz.prog w= .ok (.string ⟨l.toArray⟩) w:=by
  have hs:1≤(⟨(c::l).toArray⟩:ByteArray).size:=by simp[ByteArray.size]
  have b2:=b1 1 (⟨(c::l).toArray⟩:ByteArray).size .sliceB hs
  rw[show((1:Nat):Int)=1 from rfl] at b2
  simp[Instr.slice,run_underlying dM_,Instr.sliceBounds,b2,Result.andThen,e]
 unfold Instr.sliceAt
 rw[Sem.run_bind,run_underlying dM_]
 exact hr
theorem dig_text(d:Nat)(zl zh:Int)(hd:d< 10)(el:zl=(d:Int))(eh:zh=(d:Int)+1):∀w,(Instr.sliceAt 9 (.string ⟨#[48,49,50,51,52,53,54,55,56,57]⟩) (some (.int .i64 zl)) (some (.int .i64 zh)) none).run Tryz.prog w= .ok (.string ⟨[UInt8.ofNat (48+d)].toArray⟩) w:=fun w=>by
 rw[kX_ _ d (d+1) zl zh el (by omega) (by omega) (by exact Nat.le_trans (m:=10) (by omega) (by decide)) w]
 have key:∀d,d< 10→(ByteArray.mk #[48,49,50,51,52,53,54,55,56,57]).extract d (d+1)=⟨[UInt8.ofNat (48+d)].toArray⟩:=by decide
 rw[key d hd]
theorem zd_sm{m:Nat}(h0:0< m)(h:m< 32768):zd m=[m]:=by
 have hb:UB=32768:=rfl
 unfold zd
 rw[cA_ (by decide) h0,Nat.mod_eq_of_lt (by omega),Nat.div_eq_of_lt (by omega),bo_];rfl
def ztO(z:Int)(n:Nat):Nat→AState
 |k=>⟨[(1,.aptr [zZ z] 0 0),(3,tx (pd (4* k) n)),(4,.arr (iE (zd (n/ 10^ (4* k)))))],[],2,51⟩
def ztI(z:Int)(r B:Nat)(T:List UInt8):Nat→AState
 |i=>⟨[(1,.aptr [zZ z] 0 0),(3,tx (pd i r++T)),(5,.arr (iE (zd B))),(7,i64 ((r/ 10^ i:Nat):Int)),(8,i64 i)],[],2,51⟩
def ztD(z:Int):List UInt8→AState
 |T=>⟨[(1,.aptr [zZ z] 0 0),(3,tx T)],[],2,51⟩
theorem oz_(z:Int)(h:bl z.natAbs≤68719476736):FSpec Tryz.prog 203 [.agg (zZ z)] (tx (ztx z)):=by
 have hcz:Closed (.aptr [zZ z] 0 0):=ai_ (ci_ z)
 refine f_n Tryz.func203 ?_ ?_
 exact aa_ (a5_ z) ab_
 refine r_z 2 ?_
 refine AWp.ent (st':=⟨[(1,.aptr [zZ z] 0 0)],[],2,51⟩) ?_ ?_
 exact s_e []
 by_cases h0:z=0
 subst h0
 refine ac_ (s_r 3 ?_)
 refine a_2 ?_
 refine o_0 (.bin rfl rfl (vT a9_ ((by decide)))) ?_
 refine an_ ?_
 refine am_ rfl (fun h1=>?_) (fun h1=>?_)
 refine r_z 1 ?_
 exact aj_ (aR_ rfl (by rw[show ztx 0=[48] by unfold ztx;rw[Int.natAbs_zero,Lib.decDigits_one (by decide)];rfl];rfl) (ad_ _))
 cases h1
 refine ac_ (s_r 3 ?_)
 refine a_2 ?_
 refine o_0 (.bin rfl rfl (vF a9_ ((by unfold sgZ;rw[if_neg h0];split <;> rfl)))) ?_
 refine an_ ?_
 refine cF (ah_ (r_z 1 ?_))
 refine r_z 3 ?_
 obtain⟨n,hn⟩:∃n,n=z.natAbs:=⟨_,rfl⟩
 have hn0:0< n:=by omega
 rw[←hn] at h
 have hzd:=bv_ n
 have hdl:=a6_ (b:=UB) (by decide) n
 refine aU_ (ztD z) (fun T=> ∃k,T=pd k n∧n< 10^ k∧k≤4* (bl n+1)) ?_ ?_
 refine ag_ (ax_ (ztO z n) (fun k=>n/ 10^ (4* k)) (fun k=>k=0∨0< n/ 10^ (4* (k- 1))) 0 (.inl rfl) ?_ ?_)
 simp only[ztO.eq_1]
 have e:n/ 10^ (4* 0)=n:=by simp
 rw[e,hn]
 exact s_f []
 rintro k hk
 simp only[ztO.eq_1]
 obtain⟨A,hA⟩:∃A,A=n/ 10^ (4* k):=⟨_,rfl⟩
 have hk4:4* k≤bl n+4:=by
  rcases hk with hk|hk
  omega
  have h1:10^ (4* (k- 1))≤n:=by
   apply Nat.le_of_not_lt
   intro hlt;rw[Nat.div_eq_of_lt hlt] at hk;omega
  have h2:=lt_bl n
  have h3:2^ (4* (k- 1))≤10^ (4* (k- 1)):=Nat.pow_le_pow_left (by decide) _
  have h4:4* (k- 1)< bl n:=(Nat.pow_lt_pow_iff_right (a:=2) (by decide)).1 (Nat.lt_of_le_of_lt (Nat.le_trans h3 h1) h2)
  omega
 rw[←hA]
 have hAb:bl A≤68719476736:=Nat.le_trans (bR_ (by rw[hA];exact Nat.div_le_self _ _)) h
 by_cases hA0:A=0
 have hz:(zd A).length=0:=by rw[hA0,gU_];rfl
 refine ac_ (q_z 3 ?_)
 refine cF (av_ ⟨pd (4* k) n,⟨4* k,rfl,?_,by omega⟩,?_⟩)
 rw[hA0] at hA
 exact(Nat.div_eq_zero_iff.1 hA.symm).resolve_left (by have:=Nat.one_le_pow (4* k) 10 (by decide);omega)
 simp only[ztD.eq_1]
 exact s_f []
 have hz:0< (zd A).length:=List.length_pos_iff.2 fun e=>hA0 (zd_eq_nil.1 e)
 refine ac_ (q_z 3 ?_)
 refine cT (ah_ (ag_ ?_))
 have hov:=hZ_ A 10000 (by decide) (by omega) (by decide)
 rw[zd_sm (by decide) (by decide:10000< 32768)] at hov
 obtain⟨r,hr⟩:∃r,r=A % 10000:=⟨_,rfl⟩
 obtain⟨B,hB⟩:∃B,B=A/ 10000:=⟨_,rfl⟩
 rw[←hr,←hB] at hov
 have hr4:r< 10000:=by rw[hr];exact Nat.mod_lt _ (by decide)
 have hzr:(zd r).length≤4:=by
  rw[bv_];exact cu_ (b:=UB) (by decide) (k:=4) (Nat.lt_trans hr4 (by decide))
 have hsh:=kF_ (zd r) hzr (zd_lt r)
 rw[hv_zd] at hsh
 obtain⟨T,hT⟩:∃T,T=pd (4* k) n:=⟨_,rfl⟩
 have hTl:T.length=4* k:=by rw[hT,lv_]
 rw[←hT]
 refine s_r 8 ?_
 refine a_2 ?_
 refine o_1 (.callS1 rfl rfl rfl (.keep (.shut rfl d_n (.nil))) rfl (hov)) ?_
 refine a_z ?_
 refine r_c 3 (hsh) ?_
 refine a_z ?_
 refine ac_ (r_z 1 ?_)
 refine aB_ (ztI z r B T) (fun i=>i=4) ?_ ?_
 refine ag_ (ax_ (ztI z r B T) (fun i=>4- i) (fun i=>i≤4) 0 (by decide) ?_ ?_)
 simp only[ztI.eq_1]
 have e:((r/ 10^ 0:Nat):Int)=r:=by simp
 rw[e]
 exact s_f []
 rintro i hi
 simp only[ztI.eq_1]
 by_cases h4:i< 4
 refine ac_ (q_z 2 ?_)
 refine cT (ah_ (ac_ (ag_ ?_)))
 obtain⟨c,hc⟩:∃c,c=r/ 10^ i:=⟨_,rfl⟩
 rw[←hc]
 have hcr:c≤r:=by rw[hc];exact Nat.div_le_self _ _
 have hsz:[UInt8.ofNat (48+c % 10)].length+(pd i r++T).length≤9223372036854775807:=by
  rw[List.length_append,lv_,hTl];simp only[List.length_cons,List.length_nil];omega
 refine s_r 9 ?_
 refine a_5 ?_
 refine o_0 (.slice_v rfl rfl rfl rfl (dig_text (c % 10) _ _ (by omega) (by omega) (by omega))) ?_
 refine a_1 ?_
 refine o_0 (.bin rfl rfl (cM_ (l:=[UInt8.ofNat (48+c % 10)]) (m:=pd i r++T) hsz)) ?_
 refine a_z ?_
 refine r_m 3 ?_
 refine a_z ?_
 refine r_m 3 ?_
 refine a_z ?_
 refine⟨i+1,by omega,h4,?_⟩
 have e1:pd (i+1) r++T=[UInt8.ofNat (48+c % 10)]++(pd i r++T):=by rw[pd_front,←hc];rfl
 have e2:((r/ 10^ (i+1):Nat):Int)=(c:Int) / 10:=by rw[Nat.pow_succ,←Nat.div_div_eq_div_mul,←hc];omega
 show SEnt _ ⟨[(1,.aptr [zZ z] 0 0),(3,tx (pd (i+1) r++T)),(5,.arr (iE (zd B))),(7,i64 ((r/ 10^ (i+1):Nat):Int)),(8,i64 ((i+1:Nat):Int))],[],2,_⟩
 rw[e1,e2]
 exact s_f []
 refine ac_ (q_z 2 ?_)
 refine cF (av_ ⟨i,by omega,?_⟩)
 simp only[ztI.eq_1]
 exact s_f []
 rintro _ rfl
 rw[ztI.eq_1]
 refine r_m 2 ?_
 refine a_z ?_
 have e0:n/ 10^ (4* (k+1))=B:=by rw[hB,hA,Nat.div_div_eq_div_mul,show 4* (k+1)=4* k+4 by omega,Nat.pow_add]
 refine⟨k+1,?_,.inr ?_,?_⟩
 show n/ 10^ (4* (k+1))< A
 rw[e0];omega
 show 0< n/ 10^ (4* (k+1- 1))
 rw[Nat.add_sub_cancel,←hA];omega
 have e1:pd (4* (k+1)) n=pd 4 r++T:=by
  rw[show 4* (k+1)=4+4* k by omega,pd_add,←hA,←hT,hr]
  congr 1
  exact(pd_mod 4 A).symm
 show SEnt _ ⟨[(1,.aptr [zZ z] 0 0),(3,tx (pd (4* (k+1)) n)),(4,.arr (iE (zd (n/ 10^ (4* (k+1))))))],[],2,_⟩
 rw[e0,e1]
 exact s_f []
 rintro T ⟨K,hT,hK,hKl⟩
 have hdz:dropZ T=Lib.decDigits n:=by rw[hT];exact oN_ K n hn0 hK
 clear hT hK hKl
 simp only[ztD.eq_1]
 refine aU_ (ztD z) (fun T=>T=Lib.decDigits n) ?_ ?_
 refine ag_ (ax_ (ztD z) (fun T=>T.length) (fun T=>dropZ T=Lib.decDigits n) T hdz ?_ ?_)
 simp only[ztD.eq_1]
 exact s_f []
 intro T hT
 simp only[ztD.eq_1]
 cases T with
 |nil=>exact absurd hT.symm (hL_ n)
 |cons c T=>
  rw[dropZ] at hT
  by_cases hc:c=48
  rw[if_pos hc] at hT
  refine ac_ (s_r 3 ?_)
  refine a_1 ?_
  refine o_0 (.index_s rfl rfl first_text) ?_
  refine o_0 (.bin rfl rfl (vT a9_ ((by rw[hc];rfl)))) ?_
  refine an_ ?_
  refine cT (ah_ (ag_ (r_m 3 ?_)))
  refine a_1 ?_
  refine o_0 (.slice_v rfl rfl rfl rfl (qc_ c T)) ?_
  refine a_z ?_
  refine⟨T,by simp,hT,?_⟩
  show SEnt _ ⟨[(1,.aptr [zZ z] 0 0),(3,tx T)],[],2,_⟩
  exact s_f []
  rw[if_neg hc] at hT
  have hne:(((c.toNat:Nat):Int)==48)=false:=by
   rw[beq_eq_false_iff_ne]
   intro e
   exact hc (UInt8.toNat_inj.1 (by have:c.toNat=48:=by omega
                                   exact this))
  refine ac_ (s_r 3 ?_)
  refine a_1 ?_
  refine o_0 (.index_s rfl rfl first_text) ?_
  refine o_0 (.bin rfl rfl (vF a9_ (hne))) ?_
  refine an_ ?_
  refine cF (av_ ⟨c::T,hT,?_⟩)
  show SEnt _ ⟨[(1,.aptr [zZ z] 0 0),(3,tx (c::T))],[],2,_⟩
  exact s_f []
 rintro T rfl
 simp only[ztD.eq_1]
 have hdl2:=j7_ n
 by_cases hneg:z< 0
 refine ac_ (s_r 3 ?_)
 refine a_2 ?_
 refine o_0 (.bin rfl rfl (vT do_ ((by unfold sgZ;rw[if_neg h0,if_pos hneg];rfl)))) ?_
 refine an_ ?_
 refine cT (s_r 3 ?_)
 refine a_1 ?_
 refine o_0 (.bin rfl rfl (cM_ (l:=[45]) (by simp;omega))) ?_
 refine a_z ?_
 exact aj_ (aR_ rfl (by unfold ztx;rw[if_pos hneg,hn]) (ad_ _))
 refine ac_ (s_r 3 ?_)
 refine a_2 ?_
 refine o_0 (.bin rfl rfl (vF do_ ((by unfold sgZ;rw[if_neg h0,if_neg hneg];rfl)))) ?_
 refine an_ ?_
 refine cF (ah_ (r_z 2 ?_))
 exact aj_ (aR_ rfl (by unfold ztx;rw[if_neg hneg,hn];rfl) (ad_ _))
abbrev NRow:=Int×Int×Nat
def nV(r:NRow):Rat:=numV r.1 r.2.1 r.2.2
def nR(l:List NRow):List (List AV):=l.map fun r=>nuC r.1 r.2.1 r.2.2
def nL(l:List NRow):List Rat:=l.map nV
abbrev rL(l:List Rat):List (List AV):=rE (l.map rq)
def okR(l:List NRow):Prop:=∀r∈l,i64r r.1∧i64r r.2.1∧r.2.2≤255
theorem cj_(l:List NRow):∀e∈nR l,∀c∈e,Closed c:=by
 intro e he c hc
 obtain⟨r,_,rfl⟩:=List.mem_map.1 he
 exact cw_ _ _ _ c hc
theorem gJ_(l:List Rat):∀e∈rL l,∀c∈e,Closed c:=aF_ _
theorem f0_{N D:Int}{p:Nat}(hN:i64r N)(hD:i64r D):qs (numV N D p)≤256:=by
 obtain⟨d,hd⟩:∃d,d=dNum D:=⟨_,rfl⟩
 have hd0:d≠0:=by rw[hd];unfold dNum;split <;> omega
 have hdr:i64r d:=by
  rw[hd];unfold dNum i64r;unfold i64r at hD;split <;> omega
 unfold i64r at hN hdr
 obtain⟨q,hq⟩:∃q,q=Rat.divInt N d:=⟨_,rfl⟩
 have hnv:numV N D p=powQ q (p % 4):=by unfold numV;rw[←hd,←hq]
 have hqs:qs q≤64:=by
  have hb:∀z:Int,-9223372036854775808≤z∧z≤9223372036854775808→bl z.natAbs≤64:=fun z h=>bl_le (k:=64) (by omega)
  rw[hq]
  by_cases hn:d< 0
  rw[fF_ N d hn]
  exact cU_ (by omega) (hb (-N) (by omega)) (hb d (by omega))
  rw[fE_ N d (by omega)]
  exact cU_ (by omega) (hb N (by omega)) (hb d (by omega))
 have h1:=mV_ q (p % 4)
 have h2:(p % 4+1) * qs q≤4* 64:=Nat.mul_le_mul (by omega) hqs
 rw[hnv];omega
theorem nL_qs{l:List NRow}(h:okR l):∀q∈nL l,qs q≤256:=by
 intro q hq
 obtain⟨r,hr,rfl⟩:=List.mem_map.1 hq
 exact f0_ (h r hr).1 (h r hr).2.1
def liS(l:List NRow):List Rat→Nat→AState
 |[],i=>⟨[(0,.arr (nR l)),(4,.emp),(5,.emp),(6,i64 i)],[],1,33⟩
 |q::Q,i=>⟨[(0,.arr (nR l)),(4,.lsl 1 0 (Q.length+1) none 3),(5,.lsl 2 0 (Q.length+1) none 4),(6,i64 i)],[(1,some ⟨35,3,pE (q::Q)⟩),(2,some ⟨42,4,rL (q::Q)⟩)],3,33⟩
theorem iI_(l:List NRow)(i:Nat):liS l [] i=⟨[(0,.arr (nR l)),(4,.emp),(5,.emp),(6,i64 i)],[],1,33⟩:=rfl
theorem fz_(l:List NRow)(q:Rat)(Q:List Rat)(i:Nat):liS l (q::Q) i=⟨[(0,.arr (nR l)),(4,.lsl 1 0 (Q.length+1) none 3),(5,.lsl 2 0 (Q.length+1) none 4),(6,i64 i)],[(1,some ⟨35,3,pE (q::Q)⟩),(2,some ⟨42,4,rL (q::Q)⟩)],3,33⟩:=rfl
theorem fs_List(l:List NRow)(hl:l.length≤1099511627776)(hb:okR l):FSpec Tryz.prog 101 [.arr (nR l)] (.tup [.arr (pE (nL l)),.arr (rL (nL l))]):=by
 have hcr:∀q:Rat,∀e∈[rC (rq q)],∀c∈e,Closed c:=fun q=>gJ_ [q]
 refine f_n Tryz.func101 ?_ ?_
 exact aa_ (aX_ (cj_ l)) ab_
 refine r_z 2 ?_
 refine r_z 1 ?_
 refine r_z 1 ?_
 refine ac_ (r_z 1 ?_)
 refine aB_ (fun _:Unit=>liS l (nL l) l.length) (fun _=>True) ?_ ?_
 refine ag_ (ax_ (fun i:Nat=>liS l (nL (l.take i)) i) (fun i=>l.length- i) (fun i=>i≤l.length) 0 (Nat.zero_le _) ?_ ?_)
 show SEnt _ (liS l [] 0)
 rw[iI_]
 have:=(aX_ (cj_ l))
 exact s_f []
 rintro i hi
 have hlen:(nR l).length=l.length:=by simp[nR]
 by_cases hlt:i< l.length
 ·obtain⟨n,hn⟩:∃n,l[i]?=some n:=⟨_,List.getElem?_eq_getElem hlt⟩
  have hgt:(nR l)[((i:Nat):Int).toNat]?=some (nuC n.1 n.2.1 n.2.2):=by
   show(nR l)[i]?=_
   simp[nR,hn]
  obtain⟨hn1,hn2,hn3⟩:=hb n (List.mem_of_getElem? hn)
  have hbo:=gA_ n.1 n.2.1 n.2.2 hn1 hn2 hn3
  obtain⟨v,hv⟩:∃v,v=numV n.1 n.2.1 n.2.2:=⟨_,rfl⟩
  rw[←hv] at hbo
  have htk:nL (l.take (i+1))=nL (l.take i)++[v]:=by rw[cD_ hn];simp[nL,nV,hv]
  have hQl:(nL (l.take i)).length=i:=by simp[nL];omega
  cases hQ:nL (l.take i) with
  |nil=>
   simp only[iI_]
   refine ac_ (r_z 4 ?_)
   refine am_ rfl (fun h=>?_) (fun h=>?_)
   rotate_left
   exact absurd h (by simp[nR];omega)
   refine ah_ (ac_ (ag_ (s_r 12 ?_)))
   refine a_2 ?_
   refine i_x hgt ?_
   refine l_x hgt ?_
   refine c_s (hbo) ?_
   refine a_z ?_
   refine r_d hmix 10 ?_
   refine a_8 ?_
   refine a_2 ?_
   refine an_ (n_k ?_)
   refine r_m 3 ?_
   refine a_z ?_
   refine⟨i+1,by omega,hlt,?_⟩
   simp only[htk,hQ,List.nil_append,fz_]
   refine ar_ [(1,4),(2,5)] rfl rfl rfl au_r (fun hs=>?_) (fun hs=>?_)
   ·repeat' (first|exact aA_|refine au_ rfl ?_ ?_)
    all_goals (first|(exact ak_ hs (aX_ (cj_ l)))|exact au_c)
   ·repeat' (first|exact ap_|refine al_ rfl rfl rfl rfl ?_ ?_)
    all_goals (first|((try exact aH_ hs (aI_ [v]));(try exact aH_ hs (gJ_ [v])))|exact au_e|(refine ae_ ?_;repeat' (first|exact ao_|refine af_ ?_ ?_)))
    all_goals (first|(exact ak_ hs (aX_ (cj_ l)))|exact au_c)
  |cons q Q=>
   rw[hQ] at hQl
   simp at hQl
   simp only[fz_]
   refine ac_ (r_z 4 ?_)
   refine am_ rfl (fun h=>?_) (fun h=>?_)
   rotate_left
   exact absurd h (by simp[nR];omega)
   refine ah_ (ac_ (ag_ (s_r 12 ?_)))
   refine a_2 ?_
   refine i_x hgt ?_
   refine l_x hgt ?_
   refine c_s (hbo) ?_
   refine a_z ?_
   refine r_d hmix 10 ?_
   refine a_8 ?_
   refine a_2 ?_
   refine an_ (n_k ?_)
   refine r_m 3 ?_
   refine a_z ?_
   refine⟨i+1,by omega,hlt,?_⟩
   simp only[htk,hQ,List.cons_append,fz_]
   have e:pE (q::Q)++[qC v]=pE (q::(Q++[v])):=by simp[pE]
   have e2:rL (q::Q)++[rC (rq v)]=rL (q::(Q++[v])):=by simp[rE]
   refine ar_ [(1,4),(2,5)] rfl rfl rfl ?_ (fun hs=>?_) (fun hs=>?_)
   ·repeat' (first|exact ShrL.nil|refine ShrL.cons rfl rfl rfl rfl (by first|(simp)|rfl|(simp;done)|(simp <;> omega)) ?_)
   ·repeat' (first|exact aA_|refine au_ rfl ?_ ?_)
    all_goals (first|(exact ak_ hs (aX_ (cj_ l)))|exact au_c)
   ·repeat' (first|exact ap_|refine al_ rfl rfl rfl rfl ?_ ?_)
    all_goals (first|((try exact aD_ hs e (aI_ _));(try exact aD_ hs e2 (gJ_ _)))|exact au_e|(refine ae_ ?_;repeat' (first|exact ao_|refine af_ ?_ ?_)))
    all_goals (first|(exact ak_ hs (aX_ (cj_ l)))|exact au_c)
 have hge:i=l.length:=by omega
 subst hge
 simp only[List.take_length]
 cases hQ:nL l with
 |nil=>
  simp only[iI_]
  refine ac_ (r_z 4 ?_)
  refine am_ rfl (fun h=>?_) (fun h=>?_)
  exact absurd h (by simp[nR])
  refine av_ ⟨(),trivial,?_⟩
  simp only[hQ,iI_]
  have:=(aX_ (cj_ l))
  exact s_f []
 |cons q Q=>
  simp only[fz_]
  refine ac_ (r_z 4 ?_)
  refine am_ rfl (fun h=>?_) (fun h=>?_)
  exact absurd h (by simp[nR])
  refine av_ ⟨(),trivial,?_⟩
  simp only[hQ,fz_]
  have:=(aX_ (cj_ l))
  exact s_f []
 rintro _ _
 cases hQ:nL l with
 |nil=>
  simp only[iI_]
  refine r_z 4 ?_
  refine aj_ (Fin.many ⟨_,_,rfl,rfl,⟨_,_,rfl,rfl,rfl⟩⟩ (nle rfl) ?_)
  exact af_ (Cv.emp _) (af_ (Cv.emp _) ao_)
 |cons q Q=>
  simp only[fz_]
  refine r_z 4 ?_
  refine aj_ (Fin.many ⟨_,_,rfl,rfl,⟨_,_,rfl,rfl,rfl⟩⟩ (nle rfl) ?_)
  exact af_ (Cv.sealE as_ rfl (fun _ _ h=>by cases h) rfl (by simp) (aI_ _)) (af_ (Cv.sealE as_ rfl (fun _ _ h=>by cases h) rfl (by simp) (gJ_ _)) ao_)
theorem dec_one{n:Nat}(h:Lib.decDigits n=[49]):n=1:=by
 by_cases h1:n< 10
 rw[Lib.decDigits_one h1] at h
 have:∀n,n< 10→[UInt8.ofNat (48+n)]=[49]→n=1:=by decide
 exact this n h1 h
 have h2:=Lib.decDigits_length n
 rw[h,Lib.nDigits_big h1] at h2
 have:=Lib.nDigits_pos (n/ 10)
 simp at h2;omega
theorem pU_(n:Nat):ztx (n:Int)=Lib.decDigits n:=by
 unfold ztx
 rw[if_neg (by omega),Int.natAbs_natCast];rfl
theorem pV_(z:Int):(ztx z).length≤bl z.natAbs+2:=by
 have:=j7_ z.natAbs
 unfold ztx
 split <;> simp <;> omega
theorem fs_rText(x:RQ)(hx:rok x)(h:qs x.1≤68719476736):FSpec Tryz.prog 116 [.agg (rC x)] (tx (qtx x.1)):=by
 have hn:=Nat.le_trans (b6_ x.1) h
 have hd:=Nat.le_trans (bW_ x.1) h
 have zn:=oz_ x.1.num hn
 have zd:=oz_ (x.1.den:Int) (by rw[Int.natAbs_natCast];exact hd)
 have ln:=pV_ x.1.num
 have ld:=pV_ (x.1.den:Int)
 rw[Int.natAbs_natCast] at ld
 have hcx:Closed (.aptr [rC x] 0 0):=ai_ (bg_ x)
 refine f_n Tryz.func116 ?_ ?_
 exact aa_ (bb_ x) ab_
 refine r_z 2 ?_
 by_cases h1:x.1.den=1
 have e1:decide (ztx (x.1.den:Int)=[49])=true:=decide_eq_true (by rw[h1];decide+kernel)
 refine ac_ (r_c 4 (c8_ x hx) ?_)
 refine c_s (zd) ?_
 refine o_0 (.bin rfl rfl (vT dF_ e1)) ?_
 refine an_ ?_
 refine cT (r_c 4 (zn) ?_)
 refine a_z ?_
 exact aj_ (aR_ rfl (by rw[qtx_eq,if_pos h1,List.append_nil]) (ad_ _))
 have e1:decide (ztx (x.1.den:Int)=[49])=false:=decide_eq_false fun e=>h1 (dec_one (by rw[←pU_];exact e))
 refine ac_ (r_c 4 (c8_ x hx) ?_)
 refine c_s (zd) ?_
 refine o_0 (.bin rfl rfl (vF dF_ e1)) ?_
 refine an_ ?_
 refine cF (ah_ (ac_ (r_d hmix 9 ?_)))
 refine c_s (zn) ?_
 refine o_0 (.bin rfl rfl (cM_ (m:=[47]) (by simp;omega))) ?_
 refine c_s (c8_ x hx) ?_
 refine c_s (zd) ?_
 refine o_0 (.bin rfl rfl (cM_ (by simp;omega))) ?_
 refine a_1 ?_
 refine an_ (n_k ?_)
 exact aj_ (aR_ rfl (by rw[qtx_eq,if_neg h1,pU_,List.append_assoc];rfl) (ad_ _))
theorem fs_SameN(q:Rat)(x:RQ)(hx:rok x)(h:x.1=q)(hs:qs q≤68719476736):FSpec Tryz.prog 33 [.agg (qC q),.agg (rC x)] (bln true):=by
 subst h
 have e1:decide (qtx x.1=qtx x.1)=true:=decide_eq_true rfl
 refine f_n Tryz.func33 ?_ ?_
 exact aa_ (az_ _) (aa_ (bb_ x) ab_)
 refine r_z 3 ?_
 refine ac_ (r_d hmix 6 ?_)
 refine c_s (rI_ x.1 hs) ?_
 refine c_s (fs_rText x hx hs) ?_
 refine o_0 (.bin rfl rfl (vT dF_ e1)) ?_
 refine a_1 ?_
 refine an_ (n_k ?_)
 exact aj_ (t_e (ad_ _))
def vR(x:List RQ):List Rat:=x.map (·.1)
def okX(x:List RQ):Prop:=∀y∈x,rok y
def trimR(x:List RQ):List RQ:=x.take (trimQ (vR x)).length
theorem p0_(x:List RQ):vR (trimR x)=trimQ (vR x):=by
 unfold trimR
 rw[vR,List.map_take]
 exact(eV_ (vR x)).symm
theorem okX_trim{x:List RQ}(h:okX x):okX (trimR x):=fun y hy=>h y (List.mem_of_mem_take hy)
@[simp] theorem dp_ (x:List RQ):(vR x).length=x.length:=by simp[vR]
def lkS(l:List Rat)(x:List RQ):Nat→AState
 |i=>⟨[(0,.arr (pE l)),(1,.arr (rE x)),(5,i64 i)],[],1,27⟩
theorem fs_Alike(l:List Rat)(x:List RQ)(hx:okX x)(h:vR x=l)(hs:bdL l 68719476736)(hl:l.length≤1099511627776):FSpec Tryz.prog 113 [.arr (pE l),.arr (rE x)] (bln true):=by
 have hxl:x.length=l.length:=by rw[←h];simp
 refine f_n Tryz.func113 ?_ ?_
 exact aa_ (at_ l) (aa_ (a1_ x) ab_)
 refine r_z 1 ?_
 refine ac_ (s_r 5 ?_)
 refine a_4 ?_
 refine o_0 (.bin rfl rfl (vF ba_ ((by rw[hxl];simp)))) ?_
 refine an_ ?_
 refine cF (ah_ (ac_ (r_z 1 ?_)))
 refine aB_ (fun _:Unit=>⟨[(0,.arr (pE l)),(1,.arr (rE x))],[],1,27⟩) (fun _=>True) ?_ ?_
 refine ag_ (ax_ (lkS l x) (fun i=>l.length- i) (fun i=>i≤l.length) 0 (Nat.zero_le _) ?_ ?_)
 simp only[lkS.eq_1]
 exact s_e []
 rintro i hi
 simp only[lkS.eq_1]
 by_cases hlt:i< l.length
 obtain⟨y,hy⟩:∃y,x[i]?=some y:=⟨_,List.getElem?_eq_getElem (by omega)⟩
 have hq:l[i]?=some y.1:=by rw[←h,vR,List.getElem?_map,hy];rfl
 have g1:(pE l)[((i:Nat):Int).toNat]?=some (qC y.1):=bD_ hq
 have g2:(rE x)[((i:Nat):Int).toNat]?=some (rC y):=eP_ hy
 refine ac_ (q_z 4 ?_)
 refine cT (ah_ (ac_ (ag_ (ac_ (r_d hmix 10 ?_)))))
 refine a_2 ?_
 refine i_x g1 ?_
 refine l_x g1 ?_
 refine a_2 ?_
 refine i_x g2 ?_
 refine l_x g2 ?_
 refine c_s (fs_SameN y.1 y (hx y (List.mem_of_getElem? hy)) rfl (hs _ (List.mem_of_getElem? hq))) ?_
 refine a_1 ?_
 refine an_ (n_k ?_)
 refine cF (ah_ (r_m 3 ?_))
 refine a_z ?_
 refine⟨i+1,by omega,hlt,?_⟩
 exact s_e []
 refine ac_ (q_z 4 ?_)
 refine cF (av_ ⟨(),trivial,?_⟩)
 exact s_e []
 rintro _ _
 refine r_z 1 ?_
 exact aj_ (t_e (ad_ _))
def rtmS(x:List RQ):Nat→AState
 |n=>⟨[(0,.arr (rE x)),(3,i64 n)],[],1,23⟩
theorem fB_(x:List RQ)(hl:x.length≤1099511627776):FSpec Tryz.prog 115 [.arr (rE x)] (.arr (rE (trimR x))):=by
 obtain⟨v,hv⟩:∃v,v=vR x:=⟨_,rfl⟩
 have hvl:v.length=x.length:=by rw[hv];simp
 refine f_n Tryz.func115 ?_ ?_
 exact aa_ (a1_ x) ab_
 refine r_z 1 ?_
 refine r_z 3 ?_
 refine aU_ (rtmS x) (fun n=>n≤v.length∧trimQ v=v.take n) ?_ ?_
 refine ag_ (ax_ (rtmS x) (fun n=>n) (fun n=>n≤v.length∧trimQ v=trimQ (v.take n)) v.length ⟨Nat.le_refl _,by rw[List.take_length]⟩ ?_ ?_)
 simp only[rtmS.eq_1]
 rw[hvl]
 exact s_e []
 rintro n ⟨hn,ht⟩
 simp only[rtmS.eq_1]
 cases n with
 |zero=>
  refine ac_ (s_r 11 ?_)
  refine a_1 ?_
  refine o_0 (.bin rfl rfl (vF dG_ ((by simp)))) ?_
  refine a_z ?_
  refine cF (av_ ⟨0,⟨Nat.zero_le _,?_⟩,?_⟩)
  rw[ht];rfl
  simp only[rtmS.eq_1]
  exact s_e []
 |succ n=>
  obtain⟨y,hy⟩:∃y,x[n]?=some y:=⟨_,List.getElem?_eq_getElem (by omega)⟩
  have hq:v[n]?=some y.1:=by rw[hv,vR,List.getElem?_map,hy];rfl
  have g2:(rE x)[(((n+1:Nat):Int)- 1).toNat]?=some (rC y):=by
   rw[show(((n+1:Nat):Int)- 1).toNat=n by omega];exact eP_ hy
  have hs:trimQ (v.take (n+1))=if y.1=0 then trimQ (v.take n) else v.take (n+1):=by
   rw[cD_ hq,ft_]
  by_cases h0:y.1=0
  refine ac_ (s_r 11 ?_)
  refine d_6 ?_
  first|refine ay_ rfl rfl rfl (.index_l rfl rfl (by omega) (by omega) te_66.h) rfl rfl ?_|refine ay_ rfl rfl rfl (.index_a rfl rfl (by omega) g2 rfl te_66.h) rfl rfl ?_
  first|refine ay_ rfl rfl rfl (.load_l rfl rfl g2 tg_42.h ts_42.h (nle rfl)) rfl rfl ?_|refine ay_ rfl rfl rfl (.load_a rfl g2 tg_42.h ts_42.h (nle rfl)) rfl rfl ?_
  refine c_s (gw_ y) ?_
  refine ay_ rfl rfl rfl (.bin rfl rfl (vT a9_ ((by rw[h0];decide)))) rfl rfl ?_
  refine a_z ?_
  refine cT (ah_ (ag_ (r_m 3 ?_)))
  refine a_z ?_
  refine⟨n,Nat.lt_succ_self n,⟨by omega,?_⟩,?_⟩
  rw[ht,hs,if_pos h0]
  exact s_e []
  have hz:(sgZ y.1.num==(0:Int))=false:=by
   rw[beq_eq_false_iff_ne]
   exact fun e=>h0 (sgZ_num_eq.1 e)
  refine ac_ (s_r 11 ?_)
  refine d_6 ?_
  first|refine ay_ rfl rfl rfl (.index_l rfl rfl (by omega) (by omega) te_66.h) rfl rfl ?_|refine ay_ rfl rfl rfl (.index_a rfl rfl (by omega) g2 rfl te_66.h) rfl rfl ?_
  first|refine ay_ rfl rfl rfl (.load_l rfl rfl g2 tg_42.h ts_42.h (nle rfl)) rfl rfl ?_|refine ay_ rfl rfl rfl (.load_a rfl g2 tg_42.h ts_42.h (nle rfl)) rfl rfl ?_
  refine c_s (gw_ y) ?_
  refine ay_ rfl rfl rfl (.bin rfl rfl (vF a9_ (hz))) rfl rfl ?_
  refine a_z ?_
  refine cF (av_ ⟨n+1,⟨hn,?_⟩,?_⟩)
  rw[ht,hs,if_neg h0]
  simp only[rtmS.eq_1]
  exact s_e []
 rintro n ⟨hn,ht⟩
 simp only[rtmS.eq_1]
 have hnl:(trimQ v).length=n:=by rw[ht];simp;omega
 have htr:trimR x=x.take n:=by unfold trimR;rw[←hv,hnl]
 cases n with
 |zero=>
  refine s_r 5 ?_
  refine a_2 ?_
  refine o_0 (.sa_h rfl rfl (h:=0) rfl (by simp) te_66.h (hj_ _)) ?_
  refine o_0 (.append0 rfl rfl rfl te_66.h rfl rfl rfl (.arr (es:=[]) (by simp))) ?_
  refine a_z ?_
  refine aj_ ?_
  rw[htr]
  exact Fin.tmpN rfl
 |succ n=>
  obtain⟨X,hX⟩:∃X,X=x.take (n+1):=⟨_,rfl⟩
  have hXl:X.length=n+1:=by rw[hX];simp;omega
  have hXn:rE X≠[]:=fun e=>by have:=congrArg List.length e;simp[hXl] at this
  have e4:(rE x).take (n+1)=rE X:=by rw[rE_take,hX]
  have hXn':(rE x).take (n+1)≠[]:=by rw[e4];exact hXn
  refine s_r 5 ?_
  refine a_2 ?_
  refine o_0 (.sa_h rfl rfl (h:=n+1) rfl (by simp;omega) te_66.h (hj_ _)) ?_
  refine o_1 (.append_e rfl rfl rfl te_66.h rfl rfl rfl (.arr (by rw[e4];exact hj_ _)) (by first|assumption|(simp;done)) tz_42.h rfl tb_42.h d_o (by first|(simp[maxLen];done)|(simp[maxLen];omega))) ?_
  refine a_z ?_
  refine aj_ ?_
  rw[htr,←hX,←e4]
  exact Fin.tmpS rfl rfl rfl rfl (by rw[e4];exact aF_ _)
theorem fs_SameP(l:List Rat)(x:List RQ)(hx:okX x)(h:trimQ (vR x)=l)(hs:bdL l 68719476736)(hl:x.length≤1099511627776):FSpec Tryz.prog 72 [.arr (pE l),.arr (rE x)] (bln true):=by
 have hll:l.length≤x.length:=by rw[←h];have:=a2_ (vR x);simpa using this
 refine f_n Tryz.func72 ?_ ?_
 exact aa_ (at_ l) (aa_ (a1_ x) ab_)
 refine r_z 1 ?_
 refine r_c 5 (fB_ x hl) ?_
 refine c_s (fs_Alike l (trimR x) (okX_trim hx) ((p0_ x).trans h) hs (by omega)) ?_
 refine a_z ?_
 exact aj_ (t_e (ad_ _))
def oS(t n:Nat)(fr:Fr):List RQ→AState
 |[]=>⟨(t,.emp)::fr,[],1,n⟩
 |y::Y=>⟨(t,.lsl 1 0 (Y.length+1) none 4)::fr,[(1,some ⟨42,4,rE (y::Y)⟩)],2,n⟩
theorem fQ_(t n:Nat)(fr:Fr):oS t n fr []=⟨(t,.emp)::fr,[],1,n⟩:=rfl
theorem cb_(t n:Nat)(fr:Fr)(y:RQ)(Y:List RQ):oS t n fr (y::Y)=⟨(t,.lsl 1 0 (Y.length+1) none 4)::fr,[(1,some ⟨42,4,rE (y::Y)⟩)],2,n⟩:=rfl
def rP(v:List Rat):List RQ:=v.map rq
theorem d4_(v:List Rat):okX (rP v):=fun y hy=>by obtain⟨q,_,rfl⟩:=List.mem_map.1 hy;exact bk_ q
theorem vR_rP(v:List Rat):vR (rP v)=v:=by
 unfold vR rP
 rw[List.map_map]
 exact List.map_id' v
@[simp] theorem cF_ (v:List Rat):(rP v).length=v.length:=by simp[rP]
theorem ge_(v:List Rat):trimR (rP v)=rP (trimQ v):=by
 unfold trimR
 rw[vR_rP,rP,←List.map_take,←eV_];rfl
theorem hz_{x:List RQ}{i:Nat}(h:i< x.length):∃y,x[i]?=some y∧y.1=coP (vR x) i:=by
 refine⟨_,List.getElem?_eq_getElem h,?_⟩
 unfold coP vR
 rw[List.getD_eq_getElem?_getD,List.getElem?_map,List.getElem?_eq_getElem h];rfl
theorem vR_bd{x:List RQ}{s:Nat}(h:bdL (vR x) s){y:RQ}{i:Nat}(hy:x[i]?=some y):qs y.1≤s:=h _ (List.mem_map.2 ⟨y,List.mem_of_getElem? hy,rfl⟩)
theorem take_succ'{V:List Rat}{j:Nat}(h:j< V.length):V.take (j+1)=V.take j++[coP V j]:=cD_ (bd_ h)
theorem ru_(x:List RQ)(k:RQ)(s:Nat)(hx:okX x)(hk:rok k)(hs:bdL (vR x) s)(hlim:s+qs k.1≤1099511627776)(hl:x.length≤1000000):FSpec Tryz.prog 131 [.arr (rE x),.agg (rC k)] (.arr (rE (rP (aJ_ (vR x) k.1)))):=by
 obtain⟨V,hV⟩:∃V,V=tabP (vR x).length (fun i=>coP (vR x) i* k.1):=⟨_,rfl⟩
 refine f_n Tryz.func131 ?_ ?_
 exact aa_ (a1_ x) (aa_ (bb_ k) ab_)
 have hkc:Closed (.aptr [rC k] 0 0):=ai_ (bg_ k)
 refine r_z 2 ?_
 refine AWp.ent (st':=⟨[(3,.aptr [rC k] 0 0),(0,.arr (rE x))],[],1,24⟩) ?_ ?_
 have:=bg_ k
 exact s_f []
 refine r_z 1 ?_
 refine ac_ (r_z 1 ?_)
 have hVl:V.length=x.length:=by rw[hV];simp
 refine aB_ (fun _:Unit=>oS 5 24 [(3,.aptr [rC k] 0 0),(0,.arr (rE x))] (rP V)) (fun _=>True) ?_ ?_
 refine ag_ (ax_ (fun j:Nat=>oS 5 24 [(6,i64 ((j:Nat):Int)),(3,.aptr [rC k] 0 0),(0,.arr (rE x))] (rP (V.take j))) (fun j=>V.length- j) (fun j=>j≤V.length) 0 (Nat.zero_le _) ?_ ?_)
 show SEnt _ (oS _ _ _ [])
 rw[fQ_]
 exact s_e []
 rintro j hj
 by_cases hlt:j< V.length
 obtain⟨y,hy,hyv⟩:=hz_ (x:=x) (i:=j) (by omega)
 have hyb:=vR_bd hs hy
 have hyo:=hx y (List.mem_of_getElem? hy)
 have hgt:(rE x)[((j:Nat):Int).toNat]?=some (rC y):=eP_ hy
 obtain⟨c,hc⟩:∃c,c=y.1* k.1:=⟨_,rfl⟩
 have hco:coP V j=c:=by rw[hV,dZ_,if_pos (by simp;omega),←hyv,hc]
 have hm:=ee_ y k hyo hk (by omega)
 rw[←hc] at hm
 have htk:=take_succ' hlt
 rw[hco] at htk
 have hrp:rP (V.take (j+1))=rP (V.take j)++[rq c]:=by rw[htk];simp[rP]
 have hQl:(rP (V.take j)).length=j:=by simp;omega
 cases hQ:rP (V.take j) with
 |nil=>
  rw[hQ,List.nil_append] at hrp
  simp only[fQ_]
  refine ac_ (q_z 4 ?_)
  refine cT (ah_ (ac_ (ag_ (r_d hmix 10 ?_))))
  refine a_3 ?_
  refine i_x hgt ?_
  refine l_x hgt ?_
  refine c_s (hm) ?_
  refine a_3 ?_
  refine an_ (n_k ?_)
  refine r_m 3 ?_
  refine a_z ?_
  refine⟨j+1,by omega,hlt,?_⟩
  rw[hrp,cb_]
  exact s_f [(1,5)]
 |cons q Q=>
  rw[hQ] at hQl
  rw[hQ,List.cons_append] at hrp
  simp at hQl
  simp only[cb_]
  refine ac_ (q_z 4 ?_)
  refine cT (ah_ (ac_ (ag_ (r_d hmix 10 ?_))))
  refine a_3 ?_
  refine i_x hgt ?_
  refine l_x hgt ?_
  refine c_s (hm) ?_
  refine a_3 ?_
  refine an_ (n_k ?_)
  refine r_m 3 ?_
  refine a_z ?_
  refine⟨j+1,by omega,hlt,?_⟩
  rw[hrp,cb_]
  have e:rE (q::Q)++[rC (rq c)]=rE (q::(Q++[rq c])):=by simp[rE]
  refine ar_ [(1,5)] rfl rfl rfl ?_ (fun hs=>au_f) (fun hs=>?_)
  ·repeat' (first|exact ShrL.nil|refine ShrL.cons rfl rfl rfl rfl (by first|(simp)|rfl|(simp;done)|(simp <;> omega)) ?_)
  ·repeat' (first|exact ap_|refine al_ rfl rfl rfl rfl ?_ ?_)
   all_goals (first|(exact aD_ hs e (aF_ _))|exact au_e)
 have hge:j=V.length:=by omega
 subst hge
 rw[List.take_length]
 cases hQ:rP V with
 |nil=>
  simp only[fQ_]
  refine ac_ (q_z 4 ?_)
  refine cF (av_ ⟨(),trivial,?_⟩)
  exact s_e []
 |cons q Q=>
  simp only[cb_]
  refine ac_ (q_z 4 ?_)
  refine cF (av_ ⟨(),trivial,?_⟩)
  exact s_f [(1,5)]
 rintro _ _
 have htr:=fB_ (rP V) (by simp;omega)
 rw[ge_] at htr
 cases hQ:rP V with
 |nil=>
  rw[hQ] at htr
  simp only[fQ_]
  refine r_c 3 (htr) ?_
  refine a_z ?_
  refine aj_ (aR_ rfl ?_ ?_)
  rw[hV];rfl
  exact a1_ _
 |cons q Q=>
  rw[hQ] at htr
  simp only[cb_]
  refine s_r 3 ?_
  refine a_1 ?_
  refine o_1 (.callS1 rfl rfl rfl (.shut rfl d_n (.nil)) rfl ((FSpec.argE htr (by rw[List.drop_zero];exact List.take_of_length_le (by simp))))) ?_
  refine a_z ?_
  refine aj_ (aR_ rfl ?_ ?_)
  rw[hV];rfl
  exact a1_ _
theorem lX_(x:List RQ)(s:Nat)(hx:okX x)(hs:bdL (vR x) s)(hlim:s+64≤1099511627776)(hl:x.length≤1000000):FSpec Tryz.prog 250 [.arr (rE x)] (.arr (rE (rP (aK_ (vR x))))):=by
 obtain⟨V,hV⟩:∃V,V=tabP ((vR x).length+1) (fun i=>if i=0 then 0 else coP (vR x) (i- 1) / ((i:Nat):Int)):=⟨_,rfl⟩
 refine f_n Tryz.func250 ?_ ?_
 exact aa_ (a1_ x) ab_
 have hi0:FSpec Tryz.prog 112 [i64 0] (.agg (rC (rq 0))):=cy_ 0 (by decide)
 refine r_z 1 ?_
 refine r_c 3 (hi0) ?_
 refine a_z ?_
 refine ac_ (r_z 1 ?_)
 have hVl:V.length=x.length+1:=by rw[hV];simp
 refine aB_ (fun _:Unit=>oS 3 26 [(0,.arr (rE x))] (rP V)) (fun _=>True) ?_ ?_
 refine ag_ (ax_ (fun j:Nat=>oS 3 26 [(4,i64 ((j:Nat):Int)),(0,.arr (rE x))] (rP (V.take (j+1)))) (fun j=>x.length- j) (fun j=>j≤x.length) 0 (Nat.zero_le _) ?_ ?_)
 have e0:rP (V.take (0+1))=[rq 0]:=by
  rw[take_succ' (by omega),hV,dZ_,if_pos (by simp),if_pos rfl,List.take_zero];rfl
 show SEnt _ (oS _ _ _ (rP (V.take (0+1))))
 rw[e0,cb_]
 exact s_f [(1,3)]
 rintro j hj
 have hQl:(rP (V.take (j+1))).length=j+1:=by simp;omega
 by_cases hlt:j< x.length
 obtain⟨y,hy,hyv⟩:=hz_ (x:=x) (i:=j) hlt
 have hyb:=vR_bd hs hy
 have hyo:=hx y (List.mem_of_getElem? hy)
 have hgt:(rE x)[((j:Nat):Int).toNat]?=some (rC y):=eP_ hy
 obtain⟨c,hc⟩:∃c,c=y.1/ ((j+1:Nat):Int):=⟨_,rfl⟩
 have hco:coP V (j+1)=c:=by
  rw[hV,dZ_,if_pos (by simp;omega),if_neg (by omega),hc,hyv];rfl
 have hi1:=cy_ ((j+1:Nat):Int) (by omega)
 have hn:(rq (((j+1:Nat):Int):Rat)).1≠0:=by show(((j+1:Nat):Int):Rat)≠0;exact fun e=>by have:=Rat.intCast_inj.1 (e.trans (by rfl:(0:Rat)=((0:Int):Rat)));omega
 have hm:=iW_ y (rq (((j+1:Nat):Int):Rat)) hyo (bk_ _) hn (by have:=kp_ (j+1) (by omega);show qs y.1+qs (((j+1:Nat):Int):Rat)≤_;omega)
 rw[show y.1/ (rq (((j+1:Nat):Int):Rat)).1=c by rw[hc];rfl] at hm
 have htk:=take_succ' (V:=V) (j:=j+1) (by omega)
 rw[hco] at htk
 have hrp:rP (V.take (j+1+1))=rP (V.take (j+1))++[rq c]:=by rw[htk];simp[rP]
 cases hQ:rP (V.take (j+1)) with
 |nil=>rw[hQ] at hQl;simp at hQl
 |cons q Q=>
  rw[hQ] at hQl
  rw[hQ,List.cons_append] at hrp
  simp at hQl
  simp only[cb_]
  refine ac_ (q_z 4 ?_)
  refine cT (ah_ (ac_ (ag_ (r_d hmix 12 ?_))))
  refine a_3 ?_
  refine i_x hgt ?_
  refine l_x hgt ?_
  refine c_s (hi1) ?_
  refine c_s (hm) ?_
  refine a_3 ?_
  refine an_ (n_k ?_)
  refine r_m 3 ?_
  refine a_z ?_
  refine⟨j+1,by omega,hlt,?_⟩
  rw[hrp,cb_]
  have e:rE (q::Q)++[rC (rq c)]=rE (q::(Q++[rq c])):=by simp[rE]
  refine ar_ [(1,3)] rfl rfl rfl ?_ (fun hs=>au_f) (fun hs=>?_)
  ·repeat' (first|exact ShrL.nil|refine ShrL.cons rfl rfl rfl rfl (by first|(simp)|rfl|(simp;done)|(simp <;> omega)) ?_)
  ·repeat' (first|exact ap_|refine al_ rfl rfl rfl rfl ?_ ?_)
   all_goals (first|(exact aD_ hs e (aF_ _))|exact au_e)
 have hge:V.take (j+1)=V:=List.take_of_length_le (by omega)
 rw[hge]
 cases hQ:rP V with
 |nil=>rw[hge,hQ] at hQl;simp at hQl
 |cons q Q=>
  simp only[cb_]
  refine ac_ (q_z 4 ?_)
  refine cF (av_ ⟨(),trivial,?_⟩)
  exact s_f [(1,3)]
 rintro _ _
 have htr:=fB_ (rP V) (by simp;omega)
 rw[ge_] at htr
 cases hQ:rP V with
 |nil=>have:=congrArg List.length hQ;simp[hVl] at this
 |cons q Q=>
  rw[hQ] at htr
  simp only[cb_]
  refine s_r 3 ?_
  refine a_1 ?_
  refine o_1 (.callS1 rfl rfl rfl (.shut rfl d_n (.nil)) rfl ((FSpec.argE htr (by rw[List.drop_zero];exact List.take_of_length_le (by simp))))) ?_
  refine a_z ?_
  refine aj_ (aR_ rfl ?_ ?_)
  rw[hV];rfl
  exact a1_ _
@[simp] theorem trimR_length (x:List RQ):(trimR x).length=(trimQ (vR x)).length:=by rw[←p0_,dp_]
theorem lY_(q:Rat):FSpec Tryz.prog 249 [.agg (rC (rq q))] (.arr (rE (rP (dY_ q)))):=by
 have htr:=fB_ (rP [q]) (by simp)
 rw[ge_] at htr
 refine f_n Tryz.func249 ?_ ?_
 exact aa_ (bb_ _) ab_
 refine r_z 2 ?_
 refine s_r 4 ?_
 refine a_2 ?_
 refine o_1 (.callS1 rfl rfl rfl (.shut rfl d_n (.nil)) rfl ((FSpec.argE htr (by rw[List.drop_zero];exact List.take_of_length_le (by simp))))) ?_
 refine a_z ?_
 exact aj_ (t_e (a1_ _))
theorem fs_rAddP(x y:List RQ)(s t:Nat)(hx:okX x)(hy:okX y)(hs:bdL (vR x) s)(ht:bdL (vR y) t)(hlim:s+t+64≤1099511627776)(hxl:x.length≤1000000)(hyl:y.length≤1000000):FSpec Tryz.prog 209 [.arr (rE x),.arr (rE y)] (.arr (rE (rP (addP (vR x) (vR y))))):=by
 obtain⟨V,hV⟩:∃V,V=tabP (max (vR x).length (vR y).length) (fun i=>coP (vR x) i+coP (vR y) i):=⟨_,rfl⟩
 have hi0:FSpec Tryz.prog 112 [i64 0] (.agg (rC (rq 0))):=cy_ 0 (by decide)
 have q0:qs (rq 0).1≤64:=by decide
 refine f_n Tryz.func209 ?_ ?_
 exact aa_ (a1_ x) (aa_ (a1_ y) ab_)
 refine r_z 1 ?_
 refine r_z 1 ?_
 refine ac_ (r_z 1 ?_)
 have hVl:V.length=max x.length y.length:=by rw[hV];simp
 refine aB_ (fun _:Unit=>oS 5 47 [(0,.arr (rE x)),(1,.arr (rE y))] (rP V)) (fun _=>True) ?_ ?_
 refine ag_ (ax_ (fun j:Nat=>oS 5 47 [(6,i64 ((j:Nat):Int)),(0,.arr (rE x)),(1,.arr (rE y))] (rP (V.take j))) (fun j=>V.length- j) (fun j=>j≤V.length) 0 (Nat.zero_le _) ?_ ?_)
 show SEnt _ (oS _ _ _ [])
 rw[fQ_]
 exact s_e []
 rintro j hj
 have hQl:(rP (V.take j)).length=j:=by simp;omega
 by_cases hjx:j< x.length
 by_cases hjy:j< y.length
 obtain⟨a,ha,hav⟩:=hz_ (x:=x) (i:=j) hjx
 have hab:=vR_bd hs ha
 have hao:=hx a (List.mem_of_getElem? ha)
 have hgx:(rE x)[((j:Nat):Int).toNat]?=some (rC a):=eP_ ha
 obtain⟨b,hb,hbv⟩:=hz_ (x:=y) (i:=j) hjy
 have hbb:=vR_bd ht hb
 have hbo:=hy b (List.mem_of_getElem? hb)
 have hgy:(rE y)[((j:Nat):Int).toNat]?=some (rC b):=eP_ hb
 obtain⟨c,hc⟩:∃c,c=a.1+b.1:=⟨_,rfl⟩
 have hco:coP V j=c:=by rw[hV,dZ_,if_pos (by simp;omega),←hav,←hbv,hc]
 have m1:=f4_ (rq 0) a (bk_ _) hao (by omega)
 rw[show(rq 0).1+a.1=a.1 from Rat.zero_add _] at m1
 have m2:=f4_ (rq a.1) b (bk_ _) hbo (by show qs a.1+qs b.1≤_;omega)
 rw[show(rq a.1).1+b.1=c by rw[hc];rfl] at m2
 have htk:=take_succ' (V:=V) (j:=j) (by omega)
 rw[hco] at htk
 have hrp:rP (V.take (j+1))=rP (V.take j)++[rq c]:=by rw[htk];simp[rP]
 cases hQ:rP (V.take j) with
 |nil=>
  rw[hQ,List.nil_append] at hrp
  simp only[fQ_]
  refine ac_ (q_z 10 ?_)
  refine cT (ah_ (ac_ (ag_ (r_c 3 (hi0) ?_))))
  refine a_z ?_
  refine ac_ (q_z 4 ?_)
  refine cT (r_d hmix 7 ?_)
  refine a_3 ?_
  refine i_x hgx ?_
  refine l_x hgx ?_
  refine c_s (m1) ?_
  refine a_1 ?_
  refine an_ (n_k ?_)
  refine ac_ (q_z 4 ?_)
  refine cT (r_d hmix 7 ?_)
  refine a_3 ?_
  refine i_x hgy ?_
  refine l_x hgy ?_
  refine c_s (m2) ?_
  refine a_1 ?_
  refine an_ (n_k ?_)
  refine r_m 5 ?_
  refine a_z ?_
  refine r_m 3 ?_
  refine a_z ?_
  refine⟨j+1,by omega,by omega,?_⟩
  rw[hrp,cb_]
  exact s_f [(1,5)]
 |cons q Q=>
  rw[hQ] at hQl
  rw[hQ,List.cons_append] at hrp
  simp at hQl
  simp only[cb_]
  refine ac_ (q_z 10 ?_)
  refine cT (ah_ (ac_ (ag_ (r_c 3 (hi0) ?_))))
  refine a_z ?_
  refine ac_ (q_z 4 ?_)
  refine cT (r_d hmix 7 ?_)
  refine a_3 ?_
  refine i_x hgx ?_
  refine l_x hgx ?_
  refine c_s (m1) ?_
  refine a_1 ?_
  refine an_ (n_k ?_)
  refine ac_ (q_z 4 ?_)
  refine cT (r_d hmix 7 ?_)
  refine a_3 ?_
  refine i_x hgy ?_
  refine l_x hgy ?_
  refine c_s (m2) ?_
  refine a_1 ?_
  refine an_ (n_k ?_)
  refine r_m 5 ?_
  refine a_z ?_
  refine r_m 3 ?_
  refine a_z ?_
  refine⟨j+1,by omega,by omega,?_⟩
  rw[hrp,cb_]
  have e:rE (q::Q)++[rC (rq c)]=rE (q::(Q++[rq c])):=by simp[rE]
  refine ar_ [(1,5)] rfl rfl rfl ?_ (fun hs=>au_f) (fun hs=>?_)
  ·repeat' (first|exact ShrL.nil|refine ShrL.cons rfl rfl rfl rfl (by first|(simp)|rfl|(simp;done)|(simp <;> omega)) ?_)
  ·repeat' (first|exact ap_|refine al_ rfl rfl rfl rfl ?_ ?_)
   all_goals (first|(exact aD_ hs e (aF_ _))|exact au_e)
 obtain⟨a,ha,hav⟩:=hz_ (x:=x) (i:=j) hjx
 have hab:=vR_bd hs ha
 have hao:=hx a (List.mem_of_getElem? ha)
 have hgx:(rE x)[((j:Nat):Int).toNat]?=some (rC a):=eP_ ha
 obtain⟨c,hc⟩:∃c,c=a.1:=⟨_,rfl⟩
 have hco:coP V j=c:=by rw[hV,dZ_,if_pos (by simp;omega),←hav,cn_ (p:=vR y) (by simp;omega),Rat.add_zero,hc]
 have m1:=f4_ (rq 0) a (bk_ _) hao (by omega)
 rw[show(rq 0).1+a.1=a.1 from Rat.zero_add _] at m1
 rw[←hc] at m1
 have htk:=take_succ' (V:=V) (j:=j) (by omega)
 rw[hco] at htk
 have hrp:rP (V.take (j+1))=rP (V.take j)++[rq c]:=by rw[htk];simp[rP]
 cases hQ:rP (V.take j) with
 |nil=>
  rw[hQ,List.nil_append] at hrp
  simp only[fQ_]
  refine ac_ (q_z 10 ?_)
  refine cT (ah_ (ac_ (ag_ (r_c 3 (hi0) ?_))))
  refine a_z ?_
  refine ac_ (q_z 4 ?_)
  refine cT (r_d hmix 7 ?_)
  refine a_3 ?_
  refine i_x hgx ?_
  refine l_x hgx ?_
  refine c_s (m1) ?_
  refine a_1 ?_
  refine an_ (n_k ?_)
  refine ac_ (q_z 4 ?_)
  refine cF (ah_ (r_m 5 ?_))
  refine a_z ?_
  refine r_m 3 ?_
  refine a_z ?_
  refine⟨j+1,by omega,by omega,?_⟩
  rw[hrp,cb_]
  exact s_f [(1,5)]
 |cons q Q=>
  rw[hQ] at hQl
  rw[hQ,List.cons_append] at hrp
  simp at hQl
  simp only[cb_]
  refine ac_ (q_z 10 ?_)
  refine cT (ah_ (ac_ (ag_ (r_c 3 (hi0) ?_))))
  refine a_z ?_
  refine ac_ (q_z 4 ?_)
  refine cT (r_d hmix 7 ?_)
  refine a_3 ?_
  refine i_x hgx ?_
  refine l_x hgx ?_
  refine c_s (m1) ?_
  refine a_1 ?_
  refine an_ (n_k ?_)
  refine ac_ (q_z 4 ?_)
  refine cF (ah_ (r_m 5 ?_))
  refine a_z ?_
  refine r_m 3 ?_
  refine a_z ?_
  refine⟨j+1,by omega,by omega,?_⟩
  rw[hrp,cb_]
  have e:rE (q::Q)++[rC (rq c)]=rE (q::(Q++[rq c])):=by simp[rE]
  refine ar_ [(1,5)] rfl rfl rfl ?_ (fun hs=>au_f) (fun hs=>?_)
  ·repeat' (first|exact ShrL.nil|refine ShrL.cons rfl rfl rfl rfl (by first|(simp)|rfl|(simp;done)|(simp <;> omega)) ?_)
  ·repeat' (first|exact ap_|refine al_ rfl rfl rfl rfl ?_ ?_)
   all_goals (first|(exact aD_ hs e (aF_ _))|exact au_e)
 by_cases hjy:j< y.length
 obtain⟨b,hb,hbv⟩:=hz_ (x:=y) (i:=j) hjy
 have hbb:=vR_bd ht hb
 have hbo:=hy b (List.mem_of_getElem? hb)
 have hgy:(rE y)[((j:Nat):Int).toNat]?=some (rC b):=eP_ hb
 obtain⟨c,hc⟩:∃c,c=b.1:=⟨_,rfl⟩
 have hco:coP V j=c:=by rw[hV,dZ_,if_pos (by simp;omega),cn_ (p:=vR x) (by simp;omega),←hbv,Rat.zero_add,hc]
 have m2:=f4_ (rq 0) b (bk_ _) hbo (by omega)
 rw[show(rq 0).1+b.1=c by rw[hc];exact Rat.zero_add _] at m2
 have htk:=take_succ' (V:=V) (j:=j) (by omega)
 rw[hco] at htk
 have hrp:rP (V.take (j+1))=rP (V.take j)++[rq c]:=by rw[htk];simp[rP]
 cases hQ:rP (V.take j) with
 |nil=>
  rw[hQ,List.nil_append] at hrp
  simp only[fQ_]
  refine ac_ (q_z 10 ?_)
  refine cT (ah_ (ac_ (ag_ (r_c 3 (hi0) ?_))))
  refine a_z ?_
  refine ac_ (q_z 4 ?_)
  refine cF (ah_ (ac_ (q_z 4 ?_)))
  refine cT (r_d hmix 7 ?_)
  refine a_3 ?_
  refine i_x hgy ?_
  refine l_x hgy ?_
  refine c_s (m2) ?_
  refine a_1 ?_
  refine an_ (n_k ?_)
  refine r_m 5 ?_
  refine a_z ?_
  refine r_m 3 ?_
  refine a_z ?_
  refine⟨j+1,by omega,by omega,?_⟩
  rw[hrp,cb_]
  exact s_f [(1,5)]
 |cons q Q=>
  rw[hQ] at hQl
  rw[hQ,List.cons_append] at hrp
  simp at hQl
  simp only[cb_]
  refine ac_ (q_z 10 ?_)
  refine cT (ah_ (ac_ (ag_ (r_c 3 (hi0) ?_))))
  refine a_z ?_
  refine ac_ (q_z 4 ?_)
  refine cF (ah_ (ac_ (q_z 4 ?_)))
  refine cT (r_d hmix 7 ?_)
  refine a_3 ?_
  refine i_x hgy ?_
  refine l_x hgy ?_
  refine c_s (m2) ?_
  refine a_1 ?_
  refine an_ (n_k ?_)
  refine r_m 5 ?_
  refine a_z ?_
  refine r_m 3 ?_
  refine a_z ?_
  refine⟨j+1,by omega,by omega,?_⟩
  rw[hrp,cb_]
  have e:rE (q::Q)++[rC (rq c)]=rE (q::(Q++[rq c])):=by simp[rE]
  refine ar_ [(1,5)] rfl rfl rfl ?_ (fun hs=>au_f) (fun hs=>?_)
  ·repeat' (first|exact ShrL.nil|refine ShrL.cons rfl rfl rfl rfl (by first|(simp)|rfl|(simp;done)|(simp <;> omega)) ?_)
  ·repeat' (first|exact ap_|refine al_ rfl rfl rfl rfl ?_ ?_)
   all_goals (first|(exact aD_ hs e (aF_ _))|exact au_e)
 have hge:V.take j=V:=List.take_of_length_le (by omega)
 rw[hge]
 cases hQ:rP V with
 |nil=>
  simp only[fQ_]
  refine ac_ (q_z 10 ?_)
  refine cF (av_ ⟨(),trivial,?_⟩)
  exact s_e []
 |cons q Q=>
  simp only[cb_]
  refine ac_ (q_z 10 ?_)
  refine cF (av_ ⟨(),trivial,?_⟩)
  exact s_f [(1,5)]
 rintro _ _
 have htr:=fB_ (rP V) (by simp;omega)
 rw[ge_] at htr
 cases hQ:rP V with
 |nil=>
  rw[hQ] at htr
  simp only[fQ_]
  refine r_c 3 (htr) ?_
  refine a_z ?_
  refine aj_ (aR_ rfl ?_ ?_)
  rw[hV];rfl
  exact a1_ _
 |cons q Q=>
  rw[hQ] at htr
  simp only[cb_]
  refine s_r 3 ?_
  refine a_1 ?_
  refine o_1 (.callS1 rfl rfl rfl (.shut rfl d_n (.nil)) rfl ((FSpec.argE htr (by rw[List.drop_zero];exact List.take_of_length_le (by simp))))) ?_
  refine a_z ?_
  refine aj_ (aR_ rfl ?_ ?_)
  rw[hV];rfl
  exact a1_ _
theorem jO_{x y:List RQ}(hx:okX x)(hy:okX y):okX (x++y):=fun z hz=>(List.mem_append.1 hz).elim (hx z) (hy z)
theorem lA_(n:Nat):okX (List.replicate n r0):=fun z hz=>by rw[List.eq_of_mem_replicate hz];exact ir_
theorem ic_(x y:List RQ):vR (x++y)=vR x++vR y:=by simp[vR]
theorem kf_(n:Nat):vR (List.replicate n r0)=List.replicate n 0:=by simp[vR,r0]
def zR4:List AV:=[i64 0,.emp,i64 0,.emp]
theorem le_zR4:LeL zR4 (rC r0):=by
 rw[show rC r0=[i64 0,.arr [],i64 0,.arr []] from rC_r0]
 exact .cons (.refl _) (.cons .emp (.cons (.refl _) (.cons .emp .nil)))
theorem bA_:∀c∈zR4,Closed c:=aa_ (ad_ _) (aa_ bt_ (aa_ (ad_ _) (aa_ bt_ ab_)))
theorem jS_(L:List RQ):∀n,LeLL (List.replicate n zR4++rE L) (rE (List.replicate n r0++L))
 |0=>LeLL.refl _
 |n+1=> .cons le_zR4 (jS_ L n)
theorem mx_(n:Nat)(L:List RQ):Closed (.arr (List.replicate n zR4++rE L)):=aX_ fun c hc=>(List.mem_append.1 hc).elim (fun h=>by rw[List.eq_of_mem_replicate h];exact bA_) (aF_ L c)
theorem FSpec.zerosR{P:Program}{f n:Nat}{L:List RQ}{a r:AV}(h:FSpec P f [a,.arr (rE (List.replicate n r0++L))] r)(ha:Closed a):FSpec P f [a,.arr (List.replicate n zR4++rE L)] r:=
 h.weak (.cons (Le.refl _) (.cons (Le.arr (jS_ L n)) .nil)) (aa_ ha (aa_ (mx_ n L) ab_))
theorem pY_(n:Nat):(List.replicate n zR4).all (·.all AV.one)=true:=by
 simp only[List.all_replicate]
 cases n <;> rfl
theorem h1_(x y:List RQ)(s t B:Nat)(hx:okX x)(hy:okX y)(hs:bdL (vR x) s)(ht:bdL (vR y) t)(hs1:1≤s)(hB:∀n,n≤y.length→bdL (mR (vR x) (vR y) n) B)(hlim:s+t+B+64≤1099511627776)(hxl:x.length≤100000)(hyl:y.length≤100000):FSpec Tryz.prog 130 [.arr (rE x),.arr (rE y)] (.arr (rE (rP (mulP (vR x) (vR y))))):=by
 obtain⟨m,hm⟩:∃m,m=mR (vR x) (vR y):=⟨_,rfl⟩
 rw[←hm] at hB
 refine f_n Tryz.func130 ?_ ?_
 exact aa_ (a1_ x) (aa_ (a1_ y) ab_)
 refine r_z 1 ?_
 refine r_z 1 ?_
 refine ac_ (r_z 1 ?_)
 refine aB_ (fun _:Unit=>⟨[(5,.arr (rE (rP (m y.length)))),(0,.arr (rE x)),(1,.arr (rE y))],[],1,25⟩) (fun _=>True) ?_ ?_
 refine ag_ (ax_ (fun j:Nat=>⟨[(6,i64 ((j:Nat):Int)),(5,.arr (rE (rP (m j)))),(0,.arr (rE x)),(1,.arr (rE y))],[],1,25⟩) (fun j=>y.length- j) (fun j=>j≤y.length) 0 (Nat.zero_le _) ?_ ?_)
 rw[hm]
 exact s_e []
 rintro j hj
 by_cases hlt:j< y.length
 ·obtain⟨b,hb,hbv⟩:=hz_ (x:=y) (i:=j) hlt
  have hbb:=vR_bd ht hb
  have hbo:=hy b (List.mem_of_getElem? hb)
  have hgt:(rE y)[((j:Nat):Int).toNat]?=some (rC b):=eP_ hb
  have h1:=ru_ x b s hx hbo hs (by omega) (by omega)
  have hl1:=qW_ (vR x) (vR y) j
  rw[←hm,dp_] at hl1
  have hl2:=bT_ (vR x) b.1
  rw[dp_] at hl2
  have hz:bdL (vR (List.replicate j r0++rP (aJ_ (vR x) b.1))) (s+qs b.1):=by
   rw[ic_,kf_,vR_rP]
   intro q hq
   rcases List.mem_append.1 hq with h|h
   rw[List.eq_of_mem_replicate h]
   have:qs 0=1:=by decide
   omega
   exact ke_ hs hs1 q h
  have h2:=fs_rAddP (rP (m j)) (List.replicate j r0++rP (aJ_ (vR x) b.1)) B (s+qs b.1) (d4_ _) (jO_ (lA_ _) (d4_ _)) (by rw[vR_rP];exact hB j (by omega)) hz (by omega) (by rw[cF_];omega) (by rw[List.length_append,List.length_replicate,cF_];omega)
  have hnx:addP (vR (rP (m j))) (vR (List.replicate j r0++rP (aJ_ (vR x) b.1)))=m (j+1):=by
   rw[vR_rP,ic_,kf_,vR_rP,hm,mR,←hbv];rfl
  rw[hnx] at h2
  refine ac_ (q_z 4 ?_)
  refine cT (ah_ (ac_ (ag_ ?_)))
  have h3:=FSpec.zerosR h2 (a1_ _)
  refine r_d hmix 12 ?_
  refine a_6 ?_
  refine i_x hgt ?_
  refine l_x hgt ?_
  refine c_s (h1) ?_
  refine o_2 (.append_l rfl rfl rfl te_66.h rfl rfl rfl rfl rfl d_o (pY_ _) (cS_ _) rfl (.arr (hj_ _)) tz_42.h rfl tb_42.h d_o (by first|(simp[maxLen];done)|(simp[maxLen];omega))) ?_
  refine o_1 (.callS1 rfl rfl rfl (.keep (.shut rfl d_n (.nil))) rfl ((FSpec.argE2 h3 (by rw[List.drop_zero];exact List.take_of_length_le (by simp))))) ?_
  refine a_1 ?_
  refine an_ (n_k ?_)
  refine r_m 3 ?_
  refine a_z ?_
  refine⟨j+1,by omega,hlt,?_⟩
  exact s_e []
 have hge:j=y.length:=by omega
 subst hge
 refine ac_ (q_z 4 ?_)
 refine cF (av_ ⟨(),trivial,?_⟩)
 exact s_e []
 rintro _ _
 refine r_z 2 ?_
 refine aj_ ?_
 have e:m y.length=mulP (vR x) (vR y):=by rw[hm,←lK_,dp_]
 rw[e]
 exact t_e (a1_ _)
def dSt(d:List Rat)(s:List Rat×List RQ):List Rat×List RQ:=
 (addP s.1 (shP ((vR s.2).length- d.length) [leadP (vR s.2) / leadP d]),rP (subP (vR s.2) (mulP d (shP ((vR s.2).length- d.length) [leadP (vR s.2) / leadP d]))))
def dRn(d:List Rat):Nat→List Rat×List RQ→List Rat×List RQ
 |0,s=>s
 |n+1,s=>if d.length≤s.2.length then dRn d n (dSt d s) else s
structure DInv (p d:List Rat)(t L:Nat)(s:List Rat×List RQ):Prop where
 ok:okX s.2
 tr:trimQ (vR s.2)=vR s.2
 bd:∃b,1≤b∧bdL (vR s.2) b∧bdL s.1 b∧(b+2* t+3) * 2^ s.2.length≤L
 ln:s.2.length≤p.length
 lq:s.1.length≤p.length
 ev:∀x,evalP p x=evalP s.1 x* evalP d x+evalP (vR s.2) x
theorem DInv.step{p d:List Rat}{t L:Nat}{s:List Rat×List RQ}(h:DInv p d t L s)(hd:trimQ d=d)(hd0:d≠[])(hdt:bdL d t)(ht:1≤t)(hl:d.length≤s.2.length):DInv p d t L (dSt d s)∧(dSt d s).2.length< s.2.length:=by
 obtain⟨q,X⟩:=s
 obtain⟨ok,tr,⟨b,b1,bx,bq,hb⟩,ln,lq,ev⟩:=h
 simp only at *
 have hdl:=List.length_pos_iff.2 hd0
 have hlt:=step_len tr hd hd0 (by rw[dp_];exact hl)
 obtain⟨s1,s2,s3⟩:=step_bd bx hdt b1 ht hd0 ((vR X).length- d.length)
 obtain⟨a,ha⟩:∃a,a=leadP (vR X) / leadP d:=⟨_,rfl⟩
 unfold dSt
 simp only
 rw[dp_] at hlt s2 s3⊢
 rw[←ha] at hlt s1 s2 s3⊢
 refine⟨⟨d4_ _,?_,⟨2* b+2* t+3,by omega,?_,?_,?_⟩,?_,?_,?_⟩,?_⟩
 rw[vR_rP];exact p6_ _ _
 rw[vR_rP];exact s3
 have h1:bdL [a] (b+t):=fun x hx=>by rw[List.mem_singleton.1 hx];exact s1
 exact cX_ (o6_ bq (bdL_sh h1 (by omega) _) b1 (by omega)) (by omega)
 simp only[cF_]
 obtain⟨n,hn⟩:∃n,X.length=n+1:=⟨X.length- 1,by omega⟩
 have h1:2^ (subP (vR X) (mulP d (shP (X.length- d.length) [a]))).length≤2^ n:=Nat.pow_le_pow_right (by decide) (by omega)
 have h2:=Nat.mul_le_mul_left (2* b+2* t+3+2* t+3) h1
 have h3:(b+2* t+3) * 2^ X.length=(2* b+2* t+3+2* t+3) * 2^ n:=by
  rw[hn,Nat.pow_succ,show 2* b+2* t+3+2* t+3=(b+2* t+3) * 2 by omega,Nat.mul_assoc,Nat.mul_comm 2 (2^ n)]
 omega
 simp only[cF_];omega
 have h1:=gR_ q (shP (X.length- d.length) [a])
 rw[de_] at h1
 simp at h1⊢;omega
 intro x
 rw[vR_rP,bL_,aL_,bM_,ev x]
 grind
 simp only[cF_];exact hlt
theorem DInv.run{p d:List Rat}{t L:Nat}(hd:trimQ d=d)(hd0:d≠[])(hdt:bdL d t)(ht:1≤t):∀n s,DInv p d t L s→s.2.length≤n→DInv p d t L (dRn d n s)∧(dRn d n s).2.length< d.length
 |0,s,h,hn=>by
  have:=List.length_pos_iff.2 hd0
  exact⟨h,by unfold dRn;omega⟩
 |n+1,s,h,hn=>by
  unfold dRn
  by_cases hl:d.length≤s.2.length
  rw[if_pos hl]
  obtain⟨h1,h2⟩:=h.step hd hd0 hdt ht hl
  exact DInv.run hd hd0 hdt ht n _ h1 (by omega)
  rw[if_neg hl]
  exact⟨h,by omega⟩
theorem CvLL.zerosR{r:Ren}{hp hp':Nat→Option ABlk}(h:Shr r hp hp')(L:List RQ):∀n,CvLL r hp hp' (List.replicate n zR4++rE L) (rE (List.replicate n r0++L))
 |0=>aH_ h (aF_ L)
 |n+1=>by
  refine CvLL.cons (ys:=rE (List.replicate n r0++L)) ?_ (CvLL.zerosR h L n)
  show CvL r hp hp' zR4 (rC r0)
  rw[rC_r0]
  exact af_ (ak_ h (ad_ _)) (af_ (Cv.emp _) (af_ (ak_ h (ad_ _)) (af_ (Cv.emp _) ao_)))
theorem Cv.shutZ{r:Ren}{hp hp':Nat→Option ABlk}{id sz n k:Nat}{cap:Option Nat}{c:Rat}{B:ABlk}(h:Shr r hp hp')(hi:cellF hp id=some B)(hi':Dead r hp' id)(he:B.es=List.replicate k zR4++[rC (rq c)])(hn:n=k+1):Cv r hp hp' (.lsl id 0 n cap sz) (.arr (rE (List.replicate k r0++[rq c]))):=by
 subst hn
 refine Cv.shut h hi hi' (by rw[he];simp) ?_
 rw[he,List.drop_zero,List.take_of_length_le (by simp)]
 exact CvLL.zerosR h [rq c] k


theorem qs_pow{x:Rat}{t:Nat}(h:qs x≤t):∀n,qs (x^ n)≤n* t+1
 |0=>by rw[Rat.pow_zero];exact Nat.le_trans (by decide:qs 1≤1) (Nat.le_add_left 1 _)
 |n+1=>by
  have h1:=qs_pow h n
  have h2:=bZ_ (x^ n) x
  rw[Rat.pow_succ,Nat.succ_mul];omega
def evS(x:List RQ)(a:RQ):Nat×Rat×Rat→AState
 |(i,o,w)=>⟨[(0,.arr (rE x)),(3,.lptr 1 0 0),(4,.lptr 2 0 0),(5,.lptr 3 0 0),(6,.lptr 4 0 0),(7,i64 i)],[(1,some ⟨42,4,[rC a]⟩),(2,some ⟨42,4,[zR4]⟩),(3,some ⟨42,4,[rC (rq o)]⟩),(4,some ⟨42,4,[rC (rq w)]⟩)],5,28⟩
theorem ou_(x:List RQ)(a:RQ)(s t:Nat)(hx:okX x)(ha:rok a)(hs:bdL (vR x) s)(hs1:1≤s)(ht:qs a.1≤t)(hlim:(x.length+2) * (s+t+1)≤137438953472)(hl:x.length≤1000000):
    FSpec Tryz.prog 251 [.arr (rE x),.agg (rC a)] (.agg (rC (rq (evalP (vR x) a.1)))):=by
 have hi0:FSpec Tryz.prog 112 [i64 0] (.agg (rC (rq 0))):=cy_ 0 (by decide)
 have hi1:FSpec Tryz.prog 112 [i64 1] (.agg (rC (rq 1))):=cy_ 1 (by decide)
 have hvl:=dp_ x
 refine f_n Tryz.func251 ?_ ?_
 exact aa_ (a1_ x) (aa_ (bb_ a) ab_)
 refine r_z 2 ?_
 refine r_c 6 (hi0) ?_
 refine c_s (hi1) ?_
 refine a_z ?_
 refine ac_ (r_z 1 ?_)
 refine aB_ (fun _:Unit=>⟨[(4,.lptr 1 0 0),(5,.lptr 2 0 0)],[(1,some ⟨42,4,[zR4]⟩),(2,some ⟨42,4,[rC (rq (evalP (vR x) a.1))]⟩)],3,28⟩) (fun _=>True) ?_ ?_
 refine ag_ (ax_ (evS x a) (fun y=>x.length- y.1) (fun y=>y.1≤x.length∧y.2.1=evalP ((vR x).take y.1) a.1∧y.2.2=a.1^ y.1) (0,0,1) ⟨Nat.zero_le _,rfl,(Rat.pow_zero _).symm⟩ ?_ ?_)
 simp only[evS.eq_1]
 exact s_e [(1,3),(2,4),(3,5),(4,6)]
 rintro⟨i,o,w⟩ ⟨hi,ho,hw⟩
 simp only at hi ho hw
 rw[evS.eq_1]
 refine ac_ (r_z 4 ?_)
 refine am_ rfl (fun h=>?_) (fun h=>?_)
 refine ah_ ?_
 have hlt:i< x.length:=by simpa using h
 obtain⟨y,hy,hyc⟩:=hz_ hlt
 have hym:=List.mem_of_getElem? hy
 have hgt:(rE x)[((i:Nat):Int).toNat]?=some (rC y):=eP_ hy
 have hc:=bE_ hs hs1 i
 rw[←hyc] at hc
 have hp:=qs_pow ht i
 rw[←hw] at hp
 have hob:=ec_ ht (l:=(vR x).take i) (s:=s) fun q hq=>hs q (List.mem_of_mem_take hq)
 rw[←ho,List.length_take,hvl,Nat.min_eq_left (by omega)] at hob
 have e1:(i+1) * (s+t+1)≤(x.length+1) * (s+t+1):=Nat.mul_le_mul_right _ (by omega)
 have e2:(x.length+2) * (s+t+1)=(x.length+1) * (s+t+1)+(s+t+1):=Nat.succ_mul _ _
 have e3:(i+1) * (s+t+1)=i* (s+t+1)+(s+t+1):=Nat.succ_mul _ _
 have e4:i* t≤i* (s+t+1):=Nat.mul_le_mul_left _ (by omega)
 have m1:=ee_ y (rq w) (hx y hym) (bk_ _) (by show qs y.1+qs w≤_;omega)
 have q1:=bZ_ y.1 w
 have m2:=f4_ (rq o) (rq (y.1* w)) (bk_ _) (bk_ _) (by show qs o+qs (y.1* w)≤_;omega)
 have m3:=ee_ (rq w) a (bk_ _) ha (by show qs w+qs a.1≤_;omega)
 refine ac_ (ag_ (ac_ (r_d hmix 9 ?_)))
 refine a_3 ?_
 refine i_x hgt ?_
 refine l_x hgt ?_
 refine c_s (m1) ?_
 refine c_s (m2) ?_
 refine a_1 ?_
 refine an_ (n_k ?_)
 refine r_m 4 ?_
 refine c_s (m3) ?_
 refine a_z ?_
 refine r_m 3 ?_
 refine a_z ?_
 refine⟨(i+1,o+y.1* w,w* a.1),by simp only;omega,⟨hlt,?_,by simp only;rw[hw,Rat.pow_succ]⟩,?_⟩
 simp only
 rw[di_ _ _ _ (by omega),←ho,hyc,hw]
 simp only[evS.eq_1]
 exact s_e []
 have hge:i=x.length:=by
  have:¬i< x.length:=by simpa using h
  omega
 subst hge
 rw[List.take_of_length_le (by omega)] at ho
 subst ho
 refine av_ ⟨(),trivial,?_⟩
 exact s_e [(1,4),(2,5)]
 rintro _ _
 refine r_z 2 ?_
 exact aj_ (c_e (bb_ _))
def cR(l:List (List Rat)):List (List AV):=l.map fun p=>[.arr (rE (rP p))]
@[simp] theorem cR_length (l:List (List Rat)):(cR l).length=l.length:=by simp[cR]
theorem hx_{r:Ren}{hp hp':Nat→Option ABlk}(h:Shr r hp hp'):CvL r hp hp' zR4 (rC r0):=by
 rw[show rC r0=[i64 0,.arr [],i64 0,.arr []] from rC_r0]
 exact af_ (ak_ h (ad_ _)) (af_ (Cv.emp _) (af_ (ak_ h (ad_ _)) (af_ (Cv.emp _) ao_)))
def mnX(k:Nat):List RQ:=List.replicate k r0++[rq 1]
theorem mnX_v(k:Nat):vR (mnX k)=shP k [1]:=by unfold mnX;rw[ic_,kf_];rfl
theorem mnX_ok(k:Nat):okX (mnX k):=jO_ (lA_ _) (fun z hz=>by rw[List.mem_singleton.1 hz];exact bk_ _)
theorem lV_(k:Nat)(hk:k≤1000000):FSpec Tryz.prog 163 [i64 k] (.arr (rE (mnX k))):=by
 have h1:FSpec Tryz.prog 112 [i64 1] (.agg (rC (rq 1))):=cy_ 1 (by decide)
 refine f_n Tryz.func163 ?_ ?_
 exact aa_ (ad_ _) ab_
 refine r_z 1 ?_
 refine ac_ (r_d hmix 6 ?_)
 refine a_1 ?_
 refine o_1 (.makeSlice (l:=k) (c:=k) rfl rfl te_66.h tz_42.h rfl tb_42.h (by first|omega|(simp;done)|(simp;omega)) (by first|omega|(simp;done)|(simp;omega)) (by unfold maxLen;first|omega|(simp;done)|(simp;omega))) ?_
 refine c_s (h1) ?_
 refine a_1 ?_
 refine o_2 (.append_l rfl rfl rfl te_66.h rfl rfl rfl rfl rfl d_o (pY_ _) rfl rfl (.lsl rfl (nle rfl)) tz_42.h rfl tb_42.h d_o (by first|(simp[maxLen];done)|(simp[maxLen];omega))) ?_
 refine a_1 ?_
 refine an_ (n_k ?_)
 exact aj_ (Fin.tmp rfl (Cv.shutZ (c:=1) as_ rfl (fun _ _ h=>by cases h) rfl rfl))
theorem os_(a b:Rat):FSpec Tryz.prog 127 [.agg (rC (rq a)),.agg (rC (rq b))] (.arr (rE (rP [a,b]))):=by
 refine f_n Tryz.func127 ?_ ?_
 exact aa_ (bb_ _) (aa_ (bb_ _) ab_)
 refine r_z 3 ?_
 refine r_z 4 ?_
 exact aj_ (Fin.tmp rfl (Cv.shut as_ rfl (fun _ _ h=>by cases h) (by simp) (aH_ as_ (aF_ (rP [a,b])))))
theorem lU_(u v:Rat)(n:Nat)(hu:qs u≤256)(hv:qs v≤256)(hn:n≤8):FSpec Tryz.prog 192 [.arr (rE (rP [u,v])),i64 n] (.arr (rE (rP (powP [u,v] n)))):=by
 have h1:FSpec Tryz.prog 112 [i64 1] (.agg (rC (rq 1))):=cy_ 1 (by decide)
 have h2:=lY_ 1
 refine f_n Tryz.func192 ?_ ?_
 exact aa_ (a1_ _) (aa_ (ad_ _) ab_)
 refine r_z 1 ?_
 refine r_c 3 (h1) ?_
 refine c_s (h2) ?_
 refine a_z ?_
 refine ac_ (r_z 1 ?_)
 refine aB_ (fun _:Unit=>⟨[(5,.arr (rE (rP (powP [u,v] n))))],[],1,18⟩) (fun _=>True) ?_ ?_
 refine ag_ (ax_ (fun j:Nat=>⟨[(6,i64 ((j:Nat):Int)),(5,.arr (rE (rP (powP [u,v] j)))),(0,.arr (rE (rP [u,v]))),(1,i64 n)],[],1,18⟩) (fun j=>n- j) (fun j=>j≤n) 0 (Nat.zero_le _) ?_ ?_)
 exact s_e []
 rintro j hj
 by_cases hlt:j< n
 have hll:=dA_ u v (n:=j) (by omega)
 have hb:=lB_le (n:=j) (by omega)
 have hbj:=gn_ hu hv j
 have hm:=h1_ (rP (powP [u,v] j)) (rP [u,v]) (lB j) 256 500000 (d4_ _) (d4_ _) (by rw[vR_rP];exact hbj) (by rw[vR_rP];exact bd_uv hu hv) (e8_ j) (fun i hi=>by
  rw[vR_rP,vR_rP]
  have hi2:i≤2:=by simpa[rP] using hi
  have h5:=Nat.mul_le_mul hi2 (show lB j+256+1≤160257 by omega)
  exact cX_ (mR_bd hbj (bd_uv hu hv) (e8_ j) (by decide) i) (by omega)) (by omega) (by simp[rP];omega) (by simp[rP])
 rw[vR_rP,vR_rP] at hm
 refine ac_ (q_z 3 ?_)
 refine cT (ah_ (ac_ (ag_ (r_m 4 ?_))))
 refine c_s (hm) ?_
 refine a_z ?_
 refine r_m 3 ?_
 refine a_z ?_
 refine⟨j+1,by omega,hlt,?_⟩
 exact s_e []
 have hge:j=n:=by omega
 subst hge
 refine ac_ (q_z 3 ?_)
 refine cF (av_ ⟨(),trivial,?_⟩)
 exact s_e []
 rintro _ _
 refine r_z 2 ?_
 exact aj_ (t_e (a1_ _))
theorem eH_(n:Nat)(hn:n≤73):FSpec Tryz.prog 195 [i64 n] (.agg (rC (rq (((fcN n:Nat):Int):Rat)))):=by
 have h1:FSpec Tryz.prog 112 [i64 1] (.agg (rC (rq 1))):=cy_ 1 (by decide)
 refine f_n Tryz.func195 ?_ ?_
 exact aa_ (ad_ _) ab_
 refine r_z 1 ?_
 refine r_c 3 (h1) ?_
 refine a_z ?_
 refine ac_ (r_z 1 ?_)
 refine aB_ (fun _:Unit=>⟨[(2,.lptr 1 0 0),(3,.lptr 2 0 0)],[(1,some ⟨42,4,[zR4]⟩),(2,some ⟨42,4,[rC (rq (((fcN n:Nat):Int):Rat))]⟩)],3,16⟩) (fun _=>True) ?_ ?_
 refine ag_ (ax_ (fun j:Nat=>⟨[(4,i64 ((j+2:Nat):Int)),(0,i64 n),(2,.lptr 1 0 0),(3,.lptr 2 0 0)],[(1,some ⟨42,4,[zR4]⟩),(2,some ⟨42,4,[rC (rq (((fcN (j+1):Nat):Int):Rat))]⟩)],3,16⟩) (fun j=>n- j) (fun j=>j+1≤n∨j=0) 0 (.inr rfl) ?_ ?_)
 exact s_e [(1,2),(2,3)]
 rintro j hj
 by_cases hlt:j+2≤n
 have hi:=cy_ ((j+2:Nat):Int) (by omega)
 have hm:=ee_ (rq (((fcN (j+1):Nat):Int):Rat)) (rq (((j+2:Nat):Int):Rat)) (bk_ _) (bk_ _) (by
  have q1:=gB_ (n:=j+1) (by omega)
  have q2:=qi21 (n:=((j+2:Nat):Int)) (by omega)
  show qs (((fcN (j+1):Nat):Int):Rat)+qs (((j+2:Nat):Int):Rat)≤_
  omega)
 have e:(rq (((fcN (j+1):Nat):Int):Rat)).1* (rq (((j+2:Nat):Int):Rat)).1=(((fcN (j+1+1):Nat):Int):Rat):=fcR (j+1)
 rw[e] at hm
 refine ac_ (q_z 3 ?_)
 refine cT (ah_ (ac_ (ag_ (r_d hmix 5 ?_))))
 refine c_s (hi) ?_
 refine c_s (hm) ?_
 refine a_1 ?_
 refine an_ (n_k ?_)
 refine r_m 3 ?_
 refine a_z ?_
 refine⟨j+1,by omega,.inl (by omega),?_⟩
 exact s_e [(1,2),(2,3)]
 have hge:fcN n=fcN (j+1):=by
  rcases hj with hj|hj
  rw[show n=j+1 by omega]
  subst hj
  have:n=0∨n=1:=by omega
  rcases this with e|e <;> rw[e]<;> rfl
 refine ac_ (q_z 3 ?_)
 refine cF (av_ ⟨(),trivial,?_⟩)
 rw[hge]
 exact s_e [(1,2),(2,3)]
 rintro _ _
 refine r_z 2 ?_
 exact aj_ (c_e (bb_ _))
end Go.Proofs.YtdjfjpeoddmamaaGreatDoor
