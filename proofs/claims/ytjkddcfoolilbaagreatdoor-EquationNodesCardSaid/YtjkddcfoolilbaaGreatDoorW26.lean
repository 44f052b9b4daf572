/- Part W26 of the proof. -/
import Derived.Test.YtjkddcfoolilbaaGreatDoorW25
import Derived.ProofKit
import Derived.OpenShut
import Derived.Carry
import Derived.Deep.Slices
import Derived.Deep.Strs
import Derived.Shelf.Strconv.Itoa3
import Derived.Shelf.Strings.Repeat
set_option linter.all false
namespace Go.Proofs.YtjkddcfoolilbaaGreatDoor
open Go.Abs
set_option maxRecDepth 20000
abbrev NRow:=Int×Int×Nat
def nV(r:NRow):Rat:=numV r.1 r.2.1 r.2.2
def nR(l:List NRow):List (List AV):=l.map fun r=>nuC r.1 r.2.1 r.2.2
def nL(l:List NRow):List Rat:=l.map nV
abbrev rL(l:List Rat):List (List AV):=rE (l.map rq)
def okR(l:List NRow):Prop:=∀r∈l,i64r r.1∧i64r r.2.1∧r.2.2≤255
theorem by_(l:List NRow):∀e∈nR l,∀c∈e,Closed c:=by
 intro e he c hc;obtain⟨r,_,rfl⟩:=List.mem_map.1 he;exact fr_ _ _ _ c hc
theorem e5_(l:List Rat):∀e∈rL l,∀c∈e,Closed c:=a9_ _
def liS(l:List NRow):List Rat→Nat→AState
 |[],i=>⟨[(0,.arr (nR l)),(4,.emp),(5,.emp),(6,i64 i)],[],1,33⟩
 |q::Q,i=>⟨[(0,.arr (nR l)),(4,.lsl 1 0 (Q.length+1) none 3),(5,.lsl 2 0 (Q.length+1) none 4),(6,i64 i)],[(1,some ⟨46,3,pE (q::Q)⟩),(2,some ⟨51,4,rL (q::Q)⟩)],3,33⟩
theorem iG_(l:List NRow)(i:Nat):liS l [] i=⟨[(0,.arr (nR l)),(4,.emp),(5,.emp),(6,i64 i)],[],1,33⟩:=rfl
theorem fh_(l:List NRow)(q:Rat)(Q:List Rat)(i:Nat):liS l (q::Q) i=⟨[(0,.arr (nR l)),(4,.lsl 1 0 (Q.length+1) none 3),(5,.lsl 2 0 (Q.length+1) none 4),(6,i64 i)],[(1,some ⟨46,3,pE (q::Q)⟩),(2,some ⟨51,4,rL (q::Q)⟩)],3,33⟩:=rfl
theorem nb_(l:List NRow)(hl:l.length≤1099511627776)(hb:okR l):FS 15 [.arr (nR l)] (.tup [.arr (pE (nL l)),.arr (rL (nL l))]):=by
 have hcr:∀q:Rat,∀e∈[rC (rq q)],∀c∈e,Closed c:=fun q=>e5_ [q];refine f_n Tryz.func15 ?_ ?_;exact aa_ (ax_ (by_ l)) ac_;refine r_z 2 ?_;refine r_z 1 ?_;refine r_z 1 ?_;refine ab_ (r_z 1 ?_);refine av_ (fun _:Unit=>liS l (nL l) l.length) (fun _=>True) ?_ ?_;refine af_ (aq_ (fun i:Nat=>liS l (nL (l.take i)) i) (fun i=>l.length- i) (fun i=>i≤l.length) 0 (Nat.zero_le _) ?_ ?_);show SEnt _ (liS l [] 0);rw[iG_];have:=(ax_ (by_ l));exact s_f [];rintro i hi;have hlen:(nR l).length=l.length:=by simp[nR]
 by_cases hlt:i< l.length
 ·obtain⟨n,hn⟩:∃n,l[i]?=some n:=⟨_,List.getElem?_eq_getElem hlt⟩
  have hgt:(nR l)[((i:Nat):Int).toNat]?=some (nuC n.1 n.2.1 n.2.2):=by
   show(nR l)[i]?=_;simp[nR,hn]
  obtain⟨hn1,hn2,hn3⟩:=hb n (List.mem_of_getElem? hn);have hbo:=ox_ n.1 n.2.1 n.2.2 hn1 hn2 hn3;obtain⟨v,hv⟩:∃v,v=numV n.1 n.2.1 n.2.2:=⟨_,rfl⟩;rw[←hv] at hbo;have htk:nL (l.take (i+1))=nL (l.take i)++[v]:=by rw[br_ hn];simp[nL,nV,hv]
  have hQl:(nL (l.take i)).length=i:=by simp[nL];omega
  cases hQ:nL (l.take i) with
  |nil=>
   simp only[iG_];refine ab_ (r_z 4 ?_);refine aj_ rfl (fun h=>?_) (fun h=>?_);rotate_left;exact absurd h (by simp[nR];omega);refine ah_ (ab_ (af_ (s_r 12 ?_)));refine a_2 ?_;refine i_x hgt ?_;refine l_x hgt ?_;refine c_s (hbo) ?_;refine a_z ?_;refine r_d hmix 10 ?_;refine a_8 ?_;refine a_2 ?_;refine ak_ (n_k ?_);refine r_m 3 ?_;refine a_z ?_;refine⟨i+1,by omega,hlt,?_⟩;simp only[htk,hQ,List.nil_append,fh_];refine s_x [(1,4),(2,5)] (fun hs=>e_33) (fun hs=>?_)
   ·repeat' (first|exact au_|refine h_c ?_ ?_|exact aU_ hs (aG_ [v])|exact aU_ hs (e5_ [v])|exact au_e|refine ar_ ?_|exact am_|refine ae_ ?_ ?_|exact ai_ hs (ax_ (by_ l))|exact au_c)
  |cons q Q=>
   rw[hQ] at hQl;simp at hQl;simp only[fh_];refine ab_ (r_z 4 ?_);refine aj_ rfl (fun h=>?_) (fun h=>?_);rotate_left;exact absurd h (by simp[nR];omega);refine ah_ (ab_ (af_ (s_r 12 ?_)));refine a_2 ?_;refine i_x hgt ?_;refine l_x hgt ?_;refine c_s (hbo) ?_;refine a_z ?_;refine r_d hmix 10 ?_;refine a_8 ?_;refine a_2 ?_;refine ak_ (n_k ?_);refine r_m 3 ?_;refine a_z ?_;refine⟨i+1,by omega,hlt,?_⟩;simp only[htk,hQ,List.cons_append,fh_];have e:pE (q::Q)++[qC v]=pE (q::(Q++[v])):=by simp[pE]
   have e2:rL (q::Q)++[rC (rq v)]=rL (q::(Q++[v])):=by simp[rE]
   refine s_x [(1,4),(2,5)] (fun hs=>e_33) (fun hs=>?_) e_9
   ·repeat' (first|exact au_|refine h_c ?_ ?_|exact ay_ hs e (aG_ _)|exact ay_ hs e2 (e5_ _)|exact au_e|refine ar_ ?_|exact am_|refine ae_ ?_ ?_|exact ai_ hs (ax_ (by_ l))|exact au_c)
 have hge:i=l.length:=by omega
 subst hge;simp only[List.take_length];cases hQ:nL l with
 |nil=>
  simp only[iG_];refine ab_ (r_z 4 ?_);refine aj_ rfl (fun h=>?_) (fun h=>?_);exact absurd h (by simp[nR]);refine ao_ ⟨(),trivial,?_⟩;simp only[hQ,iG_];have:=(ax_ (by_ l));exact s_f []
 |cons q Q=>
  simp only[fh_];refine ab_ (r_z 4 ?_);refine aj_ rfl (fun h=>?_) (fun h=>?_);exact absurd h (by simp[nR]);refine ao_ ⟨(),trivial,?_⟩;simp only[hQ,fh_];have:=(ax_ (by_ l));exact s_f []
 rintro _ _;cases hQ:nL l with
 |nil=>
  simp only[iG_];refine r_z 4 ?_;refine ag_ (Fin.many ⟨_,_,rfl,rfl,⟨_,_,rfl,rfl,rfl⟩⟩ (nle rfl) ?_);exact ae_ (Cv.emp _) (ae_ (Cv.emp _) am_)
 |cons q Q=>
  simp only[fh_];refine r_z 4 ?_;refine ag_ (Fin.many ⟨_,_,rfl,rfl,⟨_,_,rfl,rfl,rfl⟩⟩ (nle rfl) ?_);exact ae_ (Cv.sealE as_ rfl (fun _ _ h=>by cases h) rfl (by simp) (aG_ _)) (ae_ (Cv.sealE as_ rfl (fun _ _ h=>by cases h) rfl (by simp) (e5_ _)) am_)
theorem kS_(l:List NRow)(hl:l.length≤1099511627776)(hb:okR l):FS 31 [.arr (nR l)] (.tup [.arr (pE (nL l)),.arr (rL (nL l))]):=by
 refine f_n Tryz.func31 ?_ ?_;exact aa_ (ax_ (by_ l)) ac_;refine r_z 2 ?_;refine r_c 7 (nb_ l hl hb) ?_;refine a_z ?_;refine r_z 4 ?_;refine ag_ (Fin.many ⟨_,_,rfl,rfl,⟨_,_,rfl,rfl,rfl⟩⟩ (nle rfl) ?_);exact ae_ (ai_ as_ (ax_ (aG_ _))) (ae_ (ai_ as_ (ax_ (e5_ _))) am_)
end Go.Proofs.YtjkddcfoolilbaaGreatDoor
namespace Go.Proofs.YtjkddcfoolilbaaGreatDoor
open Go.Abs Go.Deep Go.RowKit
set_option maxRecDepth 20000
theorem sa_{M:Nat→Prop}{β:Nat→Option (Nat×Nat)}{w:World}{b s off:Nat}{f:Nat→List AV}:∀(n j:Nat),(∀i,i< j+n→(f i).length=s∧RVcs M β w b (f i) (off+i* s))→RVess M β w b s ((List.range' j n).map f) (off+j* s)
 |0,_,_=>trivial
 |n+1,j,h=>by
  rw[List.range'_succ,List.map_cons];refine⟨(h j (by omega)).1,(h j (by omega)).2,?_⟩;have:=sa_ (M:=M) (β:=β) (w:=w) (b:=b) (s:=s) (off:=off) n (j+1) (fun i hi=>h i (by omega));rwa[Nat.add_mul,Nat.one_mul,←Nat.add_assoc] at this
theorem hb_{w:World}{b o:Nat}{v:Value}(h:w.cell? ⟨b,o,none⟩=some v):∃N,aI_ w b=some N:=by
 unfold World.cell? at h;unfold aI_;split at h
 ·rename_i c _ _ e;rw[show w.heap[b]?=_ from e];exact⟨c.size,rfl⟩
 cases h
theorem tyS:(Tryz.prog).underlying 25=some (.slice 24):=by kernel_rfl
theorem tyN:∃f0 f1 f2,(Tryz.prog).underlying 24=some (.struct #[f0,f1,f2])∧f0.type=2∧f0.offset=0∧f1.type=2∧f1.offset=1∧f2.type=5∧f2.offset=2:=
 ⟨{name:= "N",type:=2,offset:=0,embedded:=false,tag:= "",pkgPath:= "",byteOffset:=0},{name:= "D",type:=2,offset:=1,embedded:=false,tag:= "",pkgPath:= "",byteOffset:=8},{name:= "Pow",type:=5,offset:=2,embedded:=false,tag:= "",pkgPath:= "",byteOffset:=16},by kernel_rfl,rfl,rfl,rfl,rfl,rfl,rfl⟩
theorem tyc82:(Tryz.prog).cellsOf 24=3:=by kernel_rfl
theorem tyc2:(Tryz.prog).cellsOf 2=1:=by kernel_rfl
theorem tyc5:(Tryz.prog).cellsOf 5=1:=by kernel_rfl
theorem tyu2:(Tryz.prog).underlying 2=some (.int .i64):=by kernel_rfl
theorem tyu5:(Tryz.prog).underlying 5=some (.int .u8):=by kernel_rfl
theorem num_of{H:Type}{enc:TypeId×Value→H}{W:World}{base n:Nat}{spare:Nat→Bool}{held:Bool}{cs:List Value}{x:DataW H×List MemPlace}(h:DataW.trod enc Tryz.prog W base spare held n 24 cs=some x):
    ∃r:NRow,i64r r.1∧i64r r.2.1∧r.2.2≤255∧cs=[.int .i64 r.1,.int .i64 r.2.1,.int .u8 r.2.2]:=by
 obtain⟨f0,f1,f2,hu,h1,h2,h3,h4,h5,h6⟩:=tyN;obtain⟨y0,y1,y2,m,_,hl,g0,g1,g2⟩:=trod_struct3 hu h;rw[h1,h2,tyc2] at g0;rw[h3,h4,tyc2] at g1;rw[h5,h6,tyc5] at g2;rw[tyc82] at hl;obtain⟨n0,e0,_,w0⟩:=DataW.trod_int tyu2 g0;obtain⟨n1,e1,_,w1⟩:=DataW.trod_int tyu2 g1;obtain⟨n2,e2,_,w2⟩:=DataW.trod_int tyu5 g2
 match cs,hl with
 |[c0,c1,c2],_=>
  simp at e0 e1 e2;subst e0;subst e1;subst e2;have b2:=bounds_u8 w2;refine⟨(n0,n1,n2.toNat),bounds_i64 w0,bounds_i64 w1,?_,?_⟩;show n2.toNat≤255;omega;show _=[_,_,Value.int .u8 ((n2.toNat:Nat):Int)];rw[Int.toNat_of_nonneg b2.1]
theorem iq_{H:Type}{enc:TypeId×Value→H}{W:World}{a:Option Addr}{len cap:Nat}{d:DataW H}{ps:List MemPlace}(h:DataW.Trod enc Tryz.prog W 0 (fun _=>true) true 25 (.slice a len cap) d ps):
    ∃l:List NRow,okR l∧RV (fun _=>False) (fun _=>none) W (.arr (nR l)) (.slice a len cap):=by
 obtain⟨fuel,hf⟩:=h;rcases open_slice tyS hf with⟨hcs,_⟩|⟨x,len',cap',m,n,D,Pl,hcs,_,hl,hm,hmm,_,hx⟩
 simp[Value.cells] at hcs;obtain⟨rfl,rfl,rfl⟩:=hcs;exact⟨[],(fun r hr=>by cases hr),none,0,rfl,Nat.le_refl _,by decide,.inl rfl⟩;simp[Value.cells] at hcs;obtain⟨rfl,rfl,rfl⟩:=hcs;simp only[if_true] at hmm;have hmc:m=cap:=hmm;rw[hmc] at hx;rw[tyc82] at hx
 have hx':∀i,i< len→∃r:NRow,(i64r r.1∧i64r r.2.1∧r.2.2≤255)∧W.cells? 0 (x.add (i* 3)) 3=some [.int .i64 r.1,.int .i64 r.2.1,.int .u8 r.2.2]:=fun i hi=>by
  obtain⟨cs',g1,g2⟩:=hx i (by omega);obtain⟨r,r1,r2,r3,e⟩:=num_of g2;exact⟨r,⟨r1,r2,r3⟩,by rw[g1,e]⟩
 obtain⟨R,hR⟩:=choose_lt (α:=NRow) hx';refine⟨(List.range len).map R,?_,some x,cap,by simp[nR],by simpa[nR] using hl,hm,?_⟩;intro r hr;obtain⟨i,hi,rfl⟩:=List.mem_map.1 hr;exact(hR i (List.mem_range.1 hi)).1;by_cases h0:len=0;subst h0;exact .inl rfl;right
 have c:∀i,i< len→∀j (v:Value),[.int .i64 (R i).1,.int .i64 (R i).2.1,.int .u8 (R i).2.2][j]?=some v→W.cell? (x.add (i* 3+j))=some v:=fun i hi j v hv=>by
  have hj:j< 3:=by
   have:=(List.getElem?_eq_some_iff.1 hv).1;simpa using this
  have:=(World.cells?_some (hR i hi).2).2.2 j hj;rw[hv,Go.Deep.add_add] at this;exact this
 have c0:=c 0 (by omega) 0 _ rfl;obtain⟨b,off,spot⟩:=x;have hspot:spot=none:=by simpa[Addr.add] using World.cell?_spot c0
 subst hspot
 have hadd:∀k,Addr.add ⟨b,off,none⟩ k=⟨b,off+k,none⟩:=fun k=>by
  unfold Addr.add;by_cases hk:k=0;simp[hk];simp[hk]
 refine⟨b,off,3,rfl,hb_ (by rw[hadd] at c0;exact c0),(fun h=>h),?_⟩;have:=sa_ (M:=fun _=>False) (β:=fun _=>none) (w:=W) (b:=b) (s:=3) (off:=off) (f:=fun i=>nuC (R i).1 (R i).2.1 (R i).2.2) len 0 (fun i hi=>⟨rfl,?_⟩);rw[Nat.zero_mul,Nat.add_zero,←List.range_eq_range'] at this;rw[nR,List.map_map];exact this;have hi':i< len:=by omega
 refine⟨⟨_,?_,rfl⟩,⟨_,?_,rfl⟩,⟨_,?_,rfl⟩,trivial⟩;have:=c i hi' 0 _ rfl;rw[hadd] at this;exact this;have:=c i hi' 1 _ rfl;rw[hadd] at this;rw[Nat.add_assoc];exact this;have:=c i hi' 2 _ rfl;rw[hadd] at this;rw[Nat.add_assoc,Nat.add_assoc];exact this
end Go.Proofs.YtjkddcfoolilbaaGreatDoor
namespace Go.Proofs.YtjkddcfoolilbaaGreatDoor
open Go.Shelf
def pm_:Go.Shelf.Ren:=⟨fun|171=>104|243=>158|246=>197|283=>237|284=>238|285=>239|286=>240|129=>255|317=>274|318=>275|319=>276|320=>277|337=>292|338=>293|n=>n,fun|3=>3|9=>9|2=>2|4=>4|171=>287|0=>0|53=>205|37=>172|5=>5|173=>290|212=>315|51=>204|20=>20|213=>316|46=>257|232=>331|233=>332|n=>n,fun|17=>0|18=>2|19=>3|n=>n⟩
theorem lay171:Go.Proofs.LaysM.n171 Tryz.prog pm_:={
 mixed:=by kernel_rfl,
 f129:=Tryz.func255.trans (congrArg some (by kernel_rfl)),
 f171:=Tryz.func104.trans (congrArg some (by kernel_rfl)),
 f243:=Tryz.func158.trans (congrArg some (by kernel_rfl)),
 f246:=Tryz.func197.trans (congrArg some (by kernel_rfl)),
 f283:=Tryz.func237.trans (congrArg some (by kernel_rfl)),
 f284:=Tryz.func238.trans (congrArg some (by kernel_rfl)),
 f285:=Tryz.func239.trans (congrArg some (by kernel_rfl)),
 f286:=Tryz.func240.trans (congrArg some (by kernel_rfl)),
 f317:=Tryz.func274.trans (congrArg some (by kernel_rfl)),
 f318:=Tryz.func275.trans (congrArg some (by kernel_rfl)),
 f319:=Tryz.func276.trans (congrArg some (by kernel_rfl)),
 f320:=Tryz.func277.trans (congrArg some (by kernel_rfl)),
 f337:=Tryz.func292.trans (congrArg some (by kernel_rfl)),
 f338:=Tryz.func293.trans (congrArg some (by kernel_rfl)),
 t0:=Tryz.underlying0,
 a0:=Tryz.isAgg0,
 z0:=Tryz.sizeOf0,
 v0:=Tryz.zeroValue0,
 t2:=Tryz.underlying2,
 a2:=Tryz.isAgg2,
 z2:=Tryz.sizeOf2,
 v2:=Tryz.zeroValue2,
 t3:=Tryz.underlying3,
 a3:=Tryz.isAgg3,
 z3:=Tryz.sizeOf3,
 v3:=Tryz.zeroValue3,
 t4:=Tryz.underlying4,
 a4:=Tryz.isAgg4,
 z4:=Tryz.sizeOf4,
 v4:=Tryz.zeroValue4,
 t5:=Tryz.underlying5,
 a5:=Tryz.isAgg5,
 z5:=Tryz.sizeOf5,
 v5:=Tryz.zeroValue5,
 t9:=Tryz.underlying9,
 a9:=Tryz.isAgg9,
 z9:=Tryz.sizeOf9,
 v9:=Tryz.zeroValue9,
 t20:=Tryz.underlying20,
 a20:=Tryz.isAgg20,
 z20:=Tryz.sizeOf20,
 v20:=Tryz.zeroValue20,
 t37:=Tryz.underlying172,
 a37:=Tryz.isAgg172,
 z37:=Tryz.sizeOf172,
 v37:=Tryz.zeroValue172,
 t46:=Tryz.underlying257,
 a46:=Tryz.isAgg257,
 z46:=Tryz.sizeOf257,
 v46:=Tryz.zeroValue257,
 t51:=Tryz.underlying204,
 a51:=Tryz.isAgg204,
 z51:=Tryz.sizeOf204,
 v51:=Tryz.zeroValue204,
 t53:=Tryz.underlying205,
 a53:=Tryz.isAgg205,
 z53:=Tryz.sizeOf205,
 v53:=Tryz.zeroValue205,
 t171:=Tryz.underlying287,
 a171:=Tryz.isAgg287,
 z171:=Tryz.sizeOf287,
 v171:=Tryz.zeroValue287,
 t173:=Tryz.underlying290,
 a173:=Tryz.isAgg290,
 z173:=Tryz.sizeOf290,
 v173:=Tryz.zeroValue290,
 t212:=Tryz.underlying315,
 a212:=Tryz.isAgg315,
 z212:=Tryz.sizeOf315,
 v212:=Tryz.zeroValue315,
 t213:=Tryz.underlying316,
 a213:=Tryz.isAgg316,
 z213:=Tryz.sizeOf316,
 t232:=Tryz.underlying331,
 a232:=Tryz.isAgg331,
 z232:=Tryz.sizeOf331,
 v232:=Tryz.zeroValue331,
 t233:=Tryz.underlying332,
 a233:=Tryz.isAgg332,
 z233:=Tryz.sizeOf332,
 v233:=Tryz.zeroValue332,
 g17:=by kernel_rfl,
 g18:=by kernel_rfl,
 g19:=by kernel_rfl,
 i0:=by kernel_rfl,
 i2:=by kernel_rfl,
 i3:=by kernel_rfl,
 i4:=by kernel_rfl,
 i5:=by kernel_rfl,
 i9:=by kernel_rfl,
 i20:=by kernel_rfl,
 i37:=by kernel_rfl,
 i46:=by kernel_rfl,
 i51:=by kernel_rfl,
 i53:=by kernel_rfl,
 i171:=by kernel_rfl,
 i173:=by kernel_rfl,
 i212:=by kernel_rfl,
 i232:=by kernel_rfl,
 i233:=by kernel_rfl,
 m17:=by kernel_rfl,
 m18:=by kernel_rfl,
 m19:=by kernel_rfl}
def jH_:Go.Shelf.Ren:=⟨fun|105=>160|212=>199|99=>200|165=>201|166=>103|170=>102|169=>105|263=>241|264=>242|206=>243|240=>157|241=>244|276=>196|277=>278|n=>n,fun|9=>9|3=>3|4=>4|20=>20|0=>0|46=>257|109=>258|5=>5|72=>174|76=>177|51=>204|146=>292|53=>205|148=>294|70=>171|37=>172|75=>176|127=>217|164=>253|80=>109|n=>n,fun|n=>n⟩
theorem lay105:Go.Proofs.Lays.n105 Tryz.prog jH_:={
 mixed:=by kernel_rfl,
 f99:=Tryz.func200.trans (congrArg some (by kernel_rfl)),
 f105:=Tryz.func160.trans (congrArg some (by kernel_rfl)),
 f165:=Tryz.func201.trans (congrArg some (by kernel_rfl)),
 f166:=Tryz.func103.trans (congrArg some (by kernel_rfl)),
 f169:=Tryz.func105.trans (congrArg some (by kernel_rfl)),
 f170:=Tryz.func102.trans (congrArg some (by kernel_rfl)),
 f206:=Tryz.func243.trans (congrArg some (by kernel_rfl)),
 f212:=Tryz.func199.trans (congrArg some (by kernel_rfl)),
 f240:=Tryz.func157.trans (congrArg some (by kernel_rfl)),
 f241:=Tryz.func244.trans (congrArg some (by kernel_rfl)),
 f263:=Tryz.func241.trans (congrArg some (by kernel_rfl)),
 f264:=Tryz.func242.trans (congrArg some (by kernel_rfl)),
 f276:=Tryz.func196.trans (congrArg some (by kernel_rfl)),
 f277:=Tryz.func278.trans (congrArg some (by kernel_rfl)),
 t0:=Tryz.underlying0,
 a0:=Tryz.isAgg0,
 z0:=Tryz.sizeOf0,
 v0:=Tryz.zeroValue0,
 t3:=Tryz.underlying3,
 a3:=Tryz.isAgg3,
 z3:=Tryz.sizeOf3,
 v3:=Tryz.zeroValue3,
 t4:=Tryz.underlying4,
 a4:=Tryz.isAgg4,
 z4:=Tryz.sizeOf4,
 v4:=Tryz.zeroValue4,
 t5:=Tryz.underlying5,
 a5:=Tryz.isAgg5,
 z5:=Tryz.sizeOf5,
 v5:=Tryz.zeroValue5,
 t9:=Tryz.underlying9,
 a9:=Tryz.isAgg9,
 z9:=Tryz.sizeOf9,
 v9:=Tryz.zeroValue9,
 t20:=Tryz.underlying20,
 a20:=Tryz.isAgg20,
 z20:=Tryz.sizeOf20,
 v20:=Tryz.zeroValue20,
 t37:=Tryz.underlying172,
 a37:=Tryz.isAgg172,
 z37:=Tryz.sizeOf172,
 v37:=Tryz.zeroValue172,
 t46:=Tryz.underlying257,
 a46:=Tryz.isAgg257,
 z46:=Tryz.sizeOf257,
 v46:=Tryz.zeroValue257,
 t51:=Tryz.underlying204,
 a51:=Tryz.isAgg204,
 z51:=Tryz.sizeOf204,
 v51:=Tryz.zeroValue204,
 t53:=Tryz.underlying205,
 a53:=Tryz.isAgg205,
 z53:=Tryz.sizeOf205,
 v53:=Tryz.zeroValue205,
 t70:=Tryz.underlying171,
 a70:=Tryz.isAgg171,
 z70:=Tryz.sizeOf171,
 v70:=Tryz.zeroValue171,
 t72:=Tryz.underlying174,
 a72:=Tryz.isAgg174,
 z72:=Tryz.sizeOf174,
 v72:=Tryz.zeroValue174,
 t75:=Tryz.underlying176,
 a75:=Tryz.isAgg176,
 z75:=Tryz.sizeOf176,
 v75:=Tryz.zeroValue176,
 t76:=Tryz.underlying177,
 a76:=Tryz.isAgg177,
 z76:=Tryz.sizeOf177,
 v76:=Tryz.zeroValue177,
 t109:=Tryz.underlying258,
 a109:=Tryz.isAgg258,
 z109:=Tryz.sizeOf258,
 v109:=Tryz.zeroValue258,
 t127:=Tryz.underlying217,
 a127:=Tryz.isAgg217,
 z127:=Tryz.sizeOf217,
 v127:=Tryz.zeroValue217,
 t146:=Tryz.underlying292,
 a146:=Tryz.isAgg292,
 z146:=Tryz.sizeOf292,
 v146:=Tryz.zeroValue292,
 t148:=Tryz.underlying294,
 a148:=Tryz.isAgg294,
 z148:=Tryz.sizeOf294,
 v148:=Tryz.zeroValue294,
 t164:=Tryz.underlying253,
 a164:=Tryz.isAgg253,
 z164:=Tryz.sizeOf253,
 v164:=Tryz.zeroValue253}
theorem ext105:Builder.Extra Tryz.prog jH_:={
 sizeBuilder:=by kernel_rfl,
 liesBuilder:=by kernel_rfl,
 t5:=Tryz.underlying5,
 a5:=Tryz.isAgg5,
 z5:=Tryz.sizeOf5,
 v5:=Tryz.zeroValue5,
 infoByte:=by kernel_rfl,
 cellsByte:=by kernel_rfl,
 sizeByte:=by kernel_rfl,
 neB5:=by decide}
end Go.Proofs.YtjkddcfoolilbaaGreatDoor
namespace Go.Proofs.YtjkddcfoolilbaaGreatDoor
open Go.Abs Go.RowKit
theorem tab_glob:(Tryz.prog).globalNamed "internal/strconv.uint64pow10" =some GT:=by kernel_rfl
theorem tab_is{w:World}(h:TabW w):Lib.TabIs Tryz.prog w "internal/strconv.uint64pow10" .u64 Lib.pow10Tab:=by
 obtain⟨t,z,h⟩:=h;unfold Lib.TabIs World.var?;rw[tab_glob];show(match w.heap[GT]? with|some (.cells cs _ _)=>some cs|_=>none)=_;rw[h];rfl
theorem pU_(w:World)(k:Nat)(os:Array Obj):Below w.heap.size w (Sort.grow (w.drewN k) os):=
 ⟨rfl,rfl,rfl,by show w.heap.size≤(w.heap++os).size;simp,fun i hi=>by show(w.heap++os)[i]?=_;rw[Array.getElem?_append_left hi]⟩
theorem fs_ItoaA(n:Nat)(h:n≤9223372036854775807):FS 104 [i64 n] (tx (Lib.decDigits n)):=by
 refine⟨aa_ (ad_ _) ac_,(nc_ 0 (by decide)).enters,fun M w vals hM hargs=>?_⟩;obtain⟨x,xs,rfl,hx,hxs⟩:=hargs;have hx':x= .int .i64 n:=hx;have hxs':xs=[]:=hxs;subst hx';subst hxs';have hc:=Any.strconv_Itoa lay171 (n:Int) (by omega) (by omega) w (tab_is hM.tab);refine Calls.mono hc fun e w' ⟨he,k,os,hw⟩=>⟨_,he,?_,?_⟩;show Value.string _=Value.string _;unfold Lib.itoa;rw[if_neg (by omega),Int.toNat_natCast];rw[hw];exact pU_ w k os
theorem pE_(z:UInt8)(n:Nat)(h:n≤100):FS 160 [tx [z],i64 n] (tx (List.replicate n z)):=by
 have en:∀(xs:Array Value) (w:World),(callFunc 160 xs).run Tryz.prog w= .ok (.enter 160 xs) w:=fun xs w=>i7_ Tryz.func160 (c:=(Tryz.f160).body.get rfl) (by kernel_rfl) rfl xs w;refine⟨aa_ (ad_ _) (aa_ (ad_ _) ac_),en,fun M w vals hM hargs=>?_⟩;obtain⟨x,xs,rfl,hx,y,ys,rfl,hy,hxs⟩:=hargs;have hx':x= .string ⟨[z].toArray⟩:=hx;have hy':y= .int .i64 n:=hy;have hxs':ys=[]:=hxs;subst hx';subst hy';subst hxs';have hc:=Any.strings_Repeat lay105 ext105 ⟨[z].toArray⟩ n w (by omega) (by simp[ByteArray.size];omega);refine Calls.mono hc fun e w' ⟨he,hb⟩=>⟨_,he,?_,hb⟩;show Value.string _=Value.string _;congr 2
 have:∀k,Lib.repeatL [z] k=List.replicate k z:=fun k=>by
  induction k with
  |zero=>rfl
  |succ k ih=>rw[Lib.repeatL,ih,List.replicate_succ];rfl
 exact congrArg List.toArray (this n)
end Go.Proofs.YtjkddcfoolilbaaGreatDoor
namespace Go.Proofs.YtjkddcfoolilbaaGreatDoor
open Go.Abs
set_option maxRecDepth 20000
def pad9(n:Nat):List UInt8:=List.replicate (9- (Lib.decDigits n).length) 48++Lib.decDigits n
def txD:List Nat→List UInt8
 |[]=>[]
 |x::xs=>Lib.decDigits x++xs.flatMap pad9
def mtx(m:Nat):List UInt8:=if m=0 then [48] else txD (digs MB m).reverse
theorem nF_{l:List Nat}(h:l≠[])(x:Nat):txD (l++[x])=txD l++pad9 x:=by
 cases l with
 |nil=>exact absurd rfl h
 |cons a l=>simp[txD]
theorem mT_:∀k n,n< 10^ (k+1)→Lib.nDigits n≤k+1
 |0,n,h=>by rw[Lib.nDigits_small (by simpa using h)];omega
 |k+1,n,h=>by
  by_cases h1:n< 10;rw[Lib.nDigits_small h1];omega;rw[Lib.nDigits_big h1];have:n/ 10< 10^ (k+1):=by rw[Nat.pow_succ] at h;omega
  have:=mT_ k (n/ 10) this;omega
theorem nm_{n:Nat}(h:n< 1000000000):(Lib.decDigits n).length≤9:=by
 rw[Lib.decDigits_length];exact mT_ 8 n h
theorem dec_ne(n:Nat):Lib.decDigits n≠[]:=by
 intro e;have h1:=Lib.decDigits_length n;rw[e] at h1;have:=Lib.nDigits_pos n;simp at h1;omega
theorem pad9_len{n:Nat}(h:n< 1000000000):(pad9 n).length=9:=by
 have:=nm_ h;simp[pad9];omega
theorem txD_ne{l:List Nat}(h:l≠[]):txD l≠[]:=by
 cases l with
 |nil=>exact absurd rfl h
 |cons a l=>intro e;exact dec_ne a (List.append_eq_nil_iff.1 e).1
theorem p8_{l:List Nat}(h:∀x∈l,x< 1000000000):(txD l).length≤9* l.length:=by
 cases l with
 |nil=>simp[txD]
 |cons a l=>
  have h1:=nm_ (h a (List.mem_cons_self ..))
  have h2:∀l:List Nat,(∀x∈l,x< 1000000000)→(l.flatMap pad9).length=9* l.length:=by
   intro l
   induction l with
   |nil=>intro _;rfl
   |cons b l ih=>
    intro h;rw[List.flatMap_cons,List.length_append,pad9_len (h b (List.mem_cons_self ..)),ih fun x hx=>h x (List.mem_cons_of_mem _ hx),List.length_cons];omega
  have h3:=h2 l fun x hx=>h x (List.mem_cons_of_mem _ hx);simp only[txD,List.length_append,List.length_cons];omega
def tf0(L:List Nat):Unit→AState
 |u=>⟨[(1,.lptr 1 0 0),(3,.lptr 2 0 0),(11,.clos 198 [] [.aptr [[.arr (dE L)]] 0 0])],[(1,some ⟨42,1,[[.arr (dE L)]]⟩),(2,some ⟨174,2,[bldC 2 0 none]⟩)],4,31⟩
def tf1(L:List Nat):List UInt8→AState
 |q=>⟨[(1,.lptr 1 0 0),(3,.lptr 2 0 0),(11,.clos 198 [] [.aptr [[.arr (dE L)]] 0 0])],[(1,some ⟨42,1,[[.arr (dE L)]]⟩),(2,some ⟨174,2,[bldC 2 3 (some q)]⟩),(3,some ⟨5,1,bE q⟩)],4,31⟩
def tfS(L:List Nat):Nat→AState
 |0=>tf0 L ()
 |k+1=>tf1 L (txD (L.reverse.take (k+1)))
theorem lY_(m:Nat)(h:bl m≤68719476736):FS 106 [.agg [mag m]] (tx (mtx m)):=by
 have hz:=eC_ m;refine f_c Tryz.func106 ?_;refine r_z 2 ?_;refine ab_ (r_c 2 (hz) ?_);refine ak_ ?_;refine aj_ rfl (fun h1=>?_) (fun h1=>?_);have h2:m=0:=by simpa using h1
 subst h2;refine r_z 1 ?_;exact ag_ (t_e (ad_ _));have h2:m≠0:=by simpa using h1
 obtain⟨L,hL⟩:∃L,L=digs MB m:=⟨_,rfl⟩;have hm:mag m= .arr (dE L):=by unfold mag;rw[hL]
 have hLl:L.length≤68719476736:=by
  rw[hL];exact Nat.le_trans (aW_ (b:=MB) (by decide) m) h
 have hLb:∀x∈L,x< 1000000000:=by rw[hL];exact bR_ (b:=MB) (by decide) m
 have hLn:L≠[]:=by rw[hL];exact fun e=>h2 ((cR_ (b:=MB) (by decide)).1 e)
 have hn1:=List.length_pos_iff.2 hLn;rw[show mtx m=txD L.reverse by unfold mtx;rw[if_neg h2,hL]];clear hz;rw[hm];refine ah_ ?_;have hcl:Closed (.aptr [[.arr (dE L)]] 0 0):=dY_ (fun e he c hc=>by simp at he;subst he;simp at hc;subst hc;exact bp_ _);have hcl2:Closed (.clos 198 [] [.aptr [[.arr (dE L)]] 0 0]):=aE_ ac_ (aa_ hcl ac_);have hdl:(dE L).length=L.length:=gv_ L;refine r_z 1 ?_;refine ab_ (r_c 3 (eD_ L) ?_);refine ak_ ?_;refine av_ (fun _:Unit=>tf1 L (txD L.reverse)) (fun _=>True) ?_ ?_;refine af_ (AWp.rangeFunc (α:=Nat) (γ:=Empty) L.length (tfS L) (fun k=>k) (fun k=>k≤L.length) (fun e=>nomatch e) (fun _ e=>nomatch e) 0 rfl (eA_ L (by omega)) rfl rfl ?_ (fun k=>by cases k <;> exact⟨rfl,rfl⟩) (fun e=>nomatch e) (Nat.zero_le _) rfl (fun _ h=>h) ?_ ?_ ?_ ?_ (fun _ e=>nomatch e));intro k xs hT;unfold backT at hT;split at hT;cases hT;rfl;cases hT;show SEntT _ (tf0 L ());rw[tf0.eq_1];exact s_t [(1,1),(2,3)];exact aa_ hcl ac_
 ·intro l k xs hk hT
  unfold backT at hT;split at hT;rotate_left;cases hT;rename_i hlt;cases hT;obtain⟨x,hx⟩:∃x,x=L.getD (L.length- 1- k) 0:=⟨_,rfl⟩
  have hgx:L[L.length- 1- k]?=some x:=by
   rw[hx,List.getD_eq_getElem?_getD,List.getElem?_eq_getElem (by omega)];rfl
  have hxb:x< 1000000000:=hLb x (List.mem_of_getElem? hgx)
  have htk:L.reverse.take (k+1)=L.reverse.take k++[x]:=by
   rw[List.take_add_one,List.getElem?_reverse (by omega),hgx];rfl
  have hit:=fs_ItoaA x (by omega);have hdl9:=nm_ hxb;rw[←hx];cases k with
  |zero=>
   show AWp _ _ _ _ ⟨setPs (tf0 L ()).fr _ _++cp_ (tf0 L ()).fr,_,_,_⟩;show AWp _ _ _ _ ⟨[(13,u32 x),(12,i64 ((L.length- 1- 0:Nat):Int)),(1,.lptr 1 0 0),(3,.lptr 2 0 0),(11,.clos 198 [] [.aptr [[.arr (dE L)]] 0 0]),(1001,.lptr 1 0 0),(1003,.lptr 2 0 0),(1011,.clos 198 [] [.aptr [[.arr (dE L)]] 0 0])],[(1,some ⟨42,1,[[.arr (dE L)]]⟩),(2,some ⟨174,2,[bldC 2 0 none]⟩)],4,31⟩;refine r_z 1 ?_;refine r_m 1 ?_;refine a_z ?_;refine af_ (r_c 4 (hit) ?_);refine a_z ?_;refine ab_ (r_z 6 ?_);refine aj_ rfl (fun h3=>?_) (fun h3=>?_);exact absurd h3 (by simp;omega);refine ah_ (r_m 2 ?_);refine a_1 ?_;refine o_2 (.callB (s:=none) (j:=0) rfl rfl rfl rfl rfl rfl (fun _ h=>by cases h) (er_ (Lib.decDigits x) (dec_ne x) (by omega))) ?_;refine ak_ ?_;refine⟨0+1,⟨by omega,rfl⟩,?_⟩;have e:txD (L.reverse.take (0+1))=Lib.decDigits x:=by rw[htk];simp[txD]
   show SEntT _ ⟨cp_ (tf1 L (txD (L.reverse.take (0+1)))).fr,(tf1 L (txD (L.reverse.take (0+1)))).hp,_,_⟩;rw[e];show SEntT _ ⟨[(1001,.lptr 1 0 0),(1003,.lptr 2 0 0),(1011,.clos 198 [] [.aptr [[.arr (dE L)]] 0 0])],[(1,some ⟨42,1,[[.arr (dE L)]]⟩),(2,some ⟨174,2,[bldC 2 3 (some (Lib.decDigits x))]⟩),(3,some ⟨5,1,bE (Lib.decDigits x)⟩)],4,31⟩;refine SEntT.to2 [(3,100017)] rfl rfl rfl au_r (fun hs=>?_) (fun hs=>?_)
   ·repeat' (first|exact aD_|refine an_ rfl ?_ ?_)
    all_goals (first|(exact ai_ hs hcl2)|exact au_c)
   ·repeat' (first|exact au_|refine fv_ rfl rfl rfl rfl ?_ ?_)
    all_goals (first|exact au_e|(refine ar_ ?_;repeat' (first|exact am_|refine ae_ ?_ ?_)))
    all_goals (first|(exact ai_ hs hcl2)|exact au_c)
  |succ k=>
   obtain⟨q,hq⟩:∃q,q=txD (L.reverse.take (k+1)):=⟨_,rfl⟩
   have hrn:L.reverse.take (k+1)≠[]:=by
    intro e;have:=congrArg List.length e;rw[List.length_take,List.length_reverse] at this;simp only[List.length_nil] at this;omega
   have hql:q.length≤9* L.length:=by
    have h3:=p8_ (l:=L.reverse.take (k+1)) (fun y hy=>hLb y (List.mem_reverse.1 (List.mem_of_mem_take hy)));have h4:(L.reverse.take (k+1)).length≤L.length:=by simp;omega
    rw[hq];omega
   show AWp _ _ _ _ ⟨setPs (tf1 L (txD (L.reverse.take (k+1)))).fr _ _++cp_ (tf1 L (txD (L.reverse.take (k+1)))).fr,(tf1 L (txD (L.reverse.take (k+1)))).hp,4,_⟩;rw[←hq];show AWp _ _ _ _ ⟨[(13,u32 x),(12,i64 ((L.length- 1- (k+1):Nat):Int)),(1,.lptr 1 0 0),(3,.lptr 2 0 0),(11,.clos 198 [] [.aptr [[.arr (dE L)]] 0 0]),(1001,.lptr 1 0 0),(1003,.lptr 2 0 0),(1011,.clos 198 [] [.aptr [[.arr (dE L)]] 0 0])],[(1,some ⟨42,1,[[.arr (dE L)]]⟩),(2,some ⟨174,2,[bldC 2 3 (some q)]⟩),(3,some ⟨5,1,bE q⟩)],4,31⟩;refine r_z 1 ?_;refine r_m 1 ?_;refine a_z ?_;refine af_ (r_c 4 (hit) ?_);refine a_z ?_;refine ab_ (r_z 6 ?_);refine aj_ rfl (fun h3=>?_) (fun h3=>?_);rotate_left;exact absurd (of_decide_eq_false h3) (by omega);have e9:((9:Int)- ((⟨(Lib.decDigits x).toArray⟩:ByteArray).size:Int))=((9- (Lib.decDigits x).length:Nat):Int):=by rw[gL_];omega
   have hrep:FS 160 [tx [48],.v (.int .i64 ((9:Int)- ((⟨(Lib.decDigits x).toArray⟩:ByteArray).size:Int)))] (tx (List.replicate (9- (Lib.decDigits x).length) 48)):=by
    rw[e9];exact pE_ 48 (9- (Lib.decDigits x).length) (by omega)
   refine r_m 5 ?_;refine o_0 (.move rfl) ?_;refine o_0 (.builtinV (vs:=[_]) rfl rfl (fun _ _ _=>rfl)) ?_;refine o_0 (.bin rfl rfl (gD_ (by rw[gL_];omega))) ?_;refine c_s (hrep) ?_;refine o_3 (.callB (s:=some _) rfl rfl rfl rfl rfl rfl (fun _ h=>by cases h;exact⟨rfl,by decide⟩) (du_ q (List.replicate (9- (Lib.decDigits x).length) 48) (by simp;omega))) ?_;refine ak_ ?_;refine r_m 2 ?_;refine a_1 ?_;refine o_3 (.callB (s:=some _) rfl rfl rfl rfl rfl rfl (fun _ h=>by cases h;exact⟨rfl,by decide⟩) (du_ (q++List.replicate (9- (Lib.decDigits x).length) 48) (Lib.decDigits x) (by simp;omega))) ?_;refine ak_ ?_;refine⟨k+1+1,⟨by omega,rfl⟩,?_⟩
   have e:txD (L.reverse.take (k+1+1))=q++List.replicate (9- (Lib.decDigits x).length) 48++Lib.decDigits x:=by
    rw[htk,nF_ hrn,←hq,List.append_assoc];rfl
   show SEntT _ ⟨cp_ (tf1 L (txD (L.reverse.take (k+1+1)))).fr,(tf1 L (txD (L.reverse.take (k+1+1)))).hp,_,_⟩;rw[e];show SEntT _ ⟨[(1001,.lptr 1 0 0),(1003,.lptr 2 0 0),(1011,.clos 198 [] [.aptr [[.arr (dE L)]] 0 0])],[(1,some ⟨42,1,[[.arr (dE L)]]⟩),(2,some ⟨174,2,[bldC 2 3 (some (q++List.replicate (9- (Lib.decDigits x).length) 48++Lib.decDigits x))]⟩),(3,some ⟨5,1,bE (q++List.replicate (9- (Lib.decDigits x).length) 48++Lib.decDigits x)⟩)],4,31⟩;refine SEntT.to2 [(3,100022)] rfl rfl rfl au_r (fun hs=>?_) (fun hs=>?_)
   ·repeat' (first|exact aD_|refine an_ rfl ?_ ?_)
    all_goals (first|(exact ai_ hs hcl2)|exact au_c)
   ·repeat' (first|exact au_|refine fv_ rfl rfl rfl rfl ?_ ?_)
    all_goals (first|exact au_e|(refine ar_ ?_;repeat' (first|exact am_|refine ae_ ?_ ?_)))
    all_goals (first|(exact ai_ hs hcl2)|exact au_c)
 ·intro k hk hT
  unfold backT at hT;split at hT;cases hT
  have hk1:k=L.length:=by
   rename_i hn;omega
  subst hk1;obtain⟨j,hj⟩:∃j,L.length=j+1:=⟨L.length- 1,by omega⟩;refine⟨(),trivial,?_⟩;show SEnt (tfS L L.length) _;rw[hj];show SEnt (tf1 L (txD (L.reverse.take (j+1)))) _;rw[←hj,List.take_of_length_le (by simp)];exact SEnt.refl _
 rintro _ _;rw[tf1.eq_1];have hne:txD L.reverse≠[]:=txD_ne (by simpa using hLn);refine s_r 2 ?_;refine o_2 (.callD rfl rfl rfl rfl rfl rfl (by decide) (by first|assumption|simp) (i8_)) ?_;refine a_z ?_;exact ag_ (t_e (ad_ _))
theorem qZ_(m:Nat):(mtx m).length≤9* bl m+1:=by
 unfold mtx;split;simp;have h1:=p8_ (l:=(digs MB m).reverse) fun x hx=>bR_ (b:=MB) (by decide) m x (List.mem_reverse.1 hx);have h2:=aW_ (b:=MB) (by decide) m;rw[List.length_reverse] at h1;omega
def qtx(q:Rat):List UInt8:=((if q.num< 0 then [45] else [])++mtx q.num.natAbs)++(if q.den=1 then [] else 47::mtx q.den)
def quS(q:Rat):List UInt8→AState
 |l=>⟨[(1,.aptr [qC q] 0 0),(3,tx l)],[],2,24⟩
theorem rU_(q:Rat)(h:qs q≤68719476736):FS 38 [.agg (qC q)] (tx (qtx q)):=by
 have hd1:=qZ_ q.num.natAbs;have hd2:=qZ_ q.den;have hden:1≤q.den:=q.den_pos;have hq1:=b5_ q;have hq2:=bP_ q;refine f_c Tryz.func38 ?_;refine r_z 2 ?_;refine AWp.ent (st':=⟨[(1,.aptr [qC q] 0 0)],[],2,24⟩) ?_ ?_;exact s_e [];refine r_c 5 (lY_ q.num.natAbs (Nat.le_trans (b5_ q) h)) ?_;refine a_z ?_;refine aQ_ (quS q) (fun l=>l=(if q.num< 0 then [45] else [])++mtx q.num.natAbs) ?_ ?_;refine r_z 3 ?_;refine aj_ rfl (fun h1=>?_) (fun h1=>?_);have h2:q.num< 0:=by simpa using h1
 refine r_m 3 ?_;refine a_1 ?_;refine o_0 (.bin rfl rfl (cI_ (l:=[45]) (by simp;omega))) ?_;refine a_z ?_;refine⟨_,by rw[if_pos h2],?_⟩;rw[quS.eq_1];exact s_x [] (fun hs=>e_2) (fun hs=>e_3);have h2:¬q.num< 0:=by simpa using h1
 refine ah_ ⟨mtx q.num.natAbs,by rw[if_neg h2];rfl,?_⟩;rw[quS.eq_1];exact s_x [] (fun hs=>e_2) (fun hs=>e_3);rintro l hl;have hll:l.length≤618475290626:=by rw[hl];split <;> simp <;> omega
 rw[quS.eq_1];refine aQ_ (quS q) (fun l=>l=qtx q) ?_ ?_;refine r_c 4 (eC_ (q.den- 1)) ?_;refine a_z ?_;refine aj_ rfl (fun h1=>?_) (fun h1=>?_)
 have h2:¬q.den=1:=by
  intro e;rw[e] at h1;simp at h1
 refine r_m 7 ?_;refine c_s (ci_ q (by omega)) ?_;refine c_s (lY_ q.den (Nat.le_trans (bP_ q) h)) ?_;refine o_0 (.bin rfl rfl (cI_ (l:=[47]) (by simp;omega))) ?_;refine o_0 (.bin rfl rfl (cI_ (by simp;omega))) ?_;refine a_z ?_;refine⟨_,by unfold qtx;rw[if_neg h2,←hl],?_⟩;rw[quS.eq_1];exact s_x [] (fun hs=>e_2) (fun hs=>e_3)
 have h2:q.den=1:=by
  have h3:q.den- 1=0:=by simpa using h1
  omega
 refine ah_ ⟨l,by unfold qtx;rw[if_pos h2,←hl,List.append_nil],?_⟩;rw[quS.eq_1];exact s_x [] (fun hs=>e_2) (fun hs=>e_3);rintro l rfl;rw[quS.eq_1];refine r_z 2 ?_;exact ag_ (t_e (ad_ _))
theorem pad9_pd{x:Nat}(h:x< 1000000000):pad9 x=pd 9 x:=by
 by_cases h0:x=0;subst h0;decide+kernel;rw[pd_dec 9 x (by omega) h];rfl
theorem p9_:∀(n m:Nat),m≤n→0< m→txD (digs MB m).reverse=Lib.decDigits m
 |0,m,h,h0=>by omega
 |n+1,m,h,h0=>by
  have hb:MB=1000000000:=rfl;rw[cv_ (by decide) h0,List.reverse_cons];by_cases hm:m< MB;rw[Nat.div_eq_of_lt hm,be_,Nat.mod_eq_of_lt hm];simp[txD];have hd:0< m/ MB:=Nat.div_pos (by omega) (by decide)
  have hne:(digs MB (m/ MB)).reverse≠[]:=fun e=>by
   have:=(cR_ (b:=MB) (by decide)).1 (List.reverse_eq_nil_iff.1 e);omega
  have hlt:m % MB< 1000000000:=Nat.mod_lt m (by decide);rw[nF_ hne,p9_ n (m/ MB) (by have:=Nat.div_lt_self h0 (by decide:1< MB);omega) hd,pad9_pd hlt,←mi_ 9 (m/ MB) (m % MB) hd hlt];congr 1;show m/ 1000000000* 1000000000+m % 1000000000=m;omega
theorem q0_(m:Nat):mtx m=Lib.decDigits m:=by
 unfold mtx;split
 ·rename_i h;subst h;decide+kernel
 exact p9_ m m (Nat.le_refl _) (by omega)
def ztx(z:Int):List UInt8:=(if z< 0 then [45] else [])++Lib.decDigits z.natAbs
theorem qtx_eq(q:Rat):qtx q=ztx q.num++(if q.den=1 then [] else 47::Lib.decDigits q.den):=by
 unfold qtx ztx;rw[q0_,q0_]
theorem jW_(n:Nat):(Lib.decDigits n).length≤bl n+1:=by
 rw[Lib.decDigits_length];have h:n< 10^ (bl n+1):=Nat.lt_of_lt_of_le (lt_bl n) (Nat.le_trans (Nat.pow_le_pow_left (by decide:2≤10) _) (Nat.pow_le_pow_right (by decide) (by omega)));exact mT_ (bl n) n h
theorem first_text{c:UInt8}{l:List UInt8}:∀w,(Instr.index 9 (.string ⟨(c::l).toArray⟩) (.int .i64 0)).run Tryz.prog w= .ok (.int .u8 c.toNat) w:=fun w=>by
 simp[Instr.index,asIntOf,run_underlying dL_,go_sem];rfl
theorem qd_(c:UInt8)(l:List UInt8):∀w,(Instr.sliceAt 9 (.string ⟨(c::l).toArray⟩) (some (.int .i64 1)) none none).run Tryz.prog w= .ok (.string ⟨l.toArray⟩) w:=fun w=>by
 have b1:∀(i y:Nat) (c:BoundsCode),i≤y→(Instr.sliceBound (.int .i64 (i:Int)) y c).run Tryz.prog w= .ok i w:=fun i y c hi=>ch_ hi c w
 have e:(⟨(c::l).toArray⟩:ByteArray).extract 1 (⟨(c::l).toArray⟩:ByteArray).size=⟨l.toArray⟩:=by
  apply ByteArray.ext;simp[ByteArray.size]
 have hr:(Instr.slice 9 (.string ⟨(c::l).toArray⟩) (some (.int .i64 ((1:Nat):Int))) none none).run Tryz.prog w= .ok (.string ⟨l.toArray⟩) w:=by
  have hs:1≤(⟨(c::l).toArray⟩:ByteArray).size:=by simp[ByteArray.size]
  have b2:=b1 1 (⟨(c::l).toArray⟩:ByteArray).size .sliceB hs;rw[show((1:Nat):Int)=1 from rfl] at b2;simp[Instr.slice,run_underlying dL_,Instr.sliceBounds,b2,Result.andThen,e]
 unfold Instr.sliceAt;rw[Sem.run_bind,run_underlying dL_];exact hr
theorem dig_text(d:Nat)(zl zh:Int)(hd:d< 10)(el:zl=(d:Int))(eh:zh=(d:Int)+1):∀w,(Instr.sliceAt 9 (.string ⟨#[48,49,50,51,52,53,54,55,56,57]⟩) (some (.int .i64 zl)) (some (.int .i64 zh)) none).run Tryz.prog w= .ok (.string ⟨[UInt8.ofNat (48+d)].toArray⟩) w:=fun w=>by
 rw[k0_ _ d (d+1) zl zh el (by omega) (by omega) (by exact Nat.le_trans (m:=10) (by omega) (by decide)) w];have key:∀d,d< 10→(ByteArray.mk #[48,49,50,51,52,53,54,55,56,57]).extract d (d+1)=⟨[UInt8.ofNat (48+d)].toArray⟩:=by decide
 rw[key d hd]
theorem zd_sm{m:Nat}(h0:0< m)(h:m< 32768):zd m=[m]:=by
 have hb:UB=32768:=rfl;unfold zd;rw[cv_ (by decide) h0,Nat.mod_eq_of_lt (by omega),Nat.div_eq_of_lt (by omega),be_];rfl
def ztO(z:Int)(n:Nat):Nat→AState
 |k=>⟨[(1,.aptr [zZ z] 0 0),(3,tx (pd (4* k) n)),(4,.arr (iE (zd (n/ 10^ (4* k)))))],[],2,51⟩
def ztI(z:Int)(r B:Nat)(T:List UInt8):Nat→AState
 |i=>⟨[(1,.aptr [zZ z] 0 0),(3,tx (pd i r++T)),(5,.arr (iE (zd B))),(7,i64 ((r/ 10^ i:Nat):Int)),(8,i64 i)],[],2,51⟩
def ztD(z:Int):List UInt8→AState
 |T=>⟨[(1,.aptr [zZ z] 0 0),(3,tx T)],[],2,51⟩
theorem os_(z:Int)(h:bl z.natAbs≤68719476736):FS 177 [.agg (zZ z)] (tx (ztx z)):=by
 have hcz:Closed (.aptr [zZ z] 0 0):=aM_ (bZ_ z);refine f_c Tryz.func177 ?_;refine r_z 2 ?_;refine AWp.ent (st':=⟨[(1,.aptr [zZ z] 0 0)],[],2,51⟩) ?_ ?_;exact s_e [];by_cases h0:z=0;subst h0;refine ab_ (s_r 3 ?_);refine a_2 ?_;refine o_0 (.bin rfl rfl (vT aS_ ((by decide)))) ?_;refine ak_ ?_;refine aj_ rfl (fun h1=>?_) (fun h1=>?_);refine r_z 1 ?_;exact ag_ (aH_ rfl (by rw[show ztx 0=[48] by unfold ztx;rw[Int.natAbs_zero,Lib.decDigits_one (by decide)];rfl];rfl) (ad_ _));cases h1;refine ab_ (s_r 3 ?_);refine a_2 ?_;refine o_0 (.bin rfl rfl (vF aS_ ((by unfold sgZ;rw[if_neg h0];split <;> rfl)))) ?_;refine ak_ ?_;refine cF (ah_ (r_z 1 ?_));refine r_z 3 ?_;obtain⟨n,hn⟩:∃n,n=z.natAbs:=⟨_,rfl⟩;have hn0:0< n:=by omega
 rw[←hn] at h;have hzd:=bm_ n;have hdl:=aW_ (b:=UB) (by decide) n;refine aQ_ (ztD z) (fun T=> ∃k,T=pd k n∧n< 10^ k∧k≤4* (bl n+1)) ?_ ?_;refine af_ (aq_ (ztO z n) (fun k=>n/ 10^ (4* k)) (fun k=>k=0∨0< n/ 10^ (4* (k- 1))) 0 (.inl rfl) ?_ ?_);simp only[ztO.eq_1];have e:n/ 10^ (4* 0)=n:=by simp
 rw[e,hn];exact s_f [];rintro k hk;simp only[ztO.eq_1];obtain⟨A,hA⟩:∃A,A=n/ 10^ (4* k):=⟨_,rfl⟩
 have hk4:4* k≤bl n+4:=by
  rcases hk with hk|hk
  omega
  have h1:10^ (4* (k- 1))≤n:=by
   apply Nat.le_of_not_lt;intro hlt;rw[Nat.div_eq_of_lt hlt] at hk;omega
  have h2:=lt_bl n;have h3:2^ (4* (k- 1))≤10^ (4* (k- 1)):=Nat.pow_le_pow_left (by decide) _;have h4:4* (k- 1)< bl n:=(Nat.pow_lt_pow_iff_right (a:=2) (by decide)).1 (Nat.lt_of_le_of_lt (Nat.le_trans h3 h1) h2);omega
 rw[←hA];have hAb:bl A≤68719476736:=Nat.le_trans (b4_ (by rw[hA];exact Nat.div_le_self _ _)) h;by_cases hA0:A=0;have hz:(zd A).length=0:=by rw[hA0,gH_];rfl
 refine ab_ (q_z 3 ?_);refine cF (ao_ ⟨pd (4* k) n,⟨4* k,rfl,?_,by omega⟩,?_⟩);rw[hA0] at hA;exact(Nat.div_eq_zero_iff.1 hA.symm).resolve_left (by have:=Nat.one_le_pow (4* k) 10 (by decide);omega);simp only[ztD.eq_1];exact s_f [];have hz:0< (zd A).length:=List.length_pos_iff.2 fun e=>hA0 (zd_eq_nil.1 e);refine ab_ (q_z 3 ?_);refine cT (ah_ (af_ ?_));have hov:=h0_ A 10000 (by decide) (by omega) (by decide);rw[zd_sm (by decide) (by decide:10000< 32768)] at hov;obtain⟨r,hr⟩:∃r,r=A % 10000:=⟨_,rfl⟩;obtain⟨B,hB⟩:∃B,B=A/ 10000:=⟨_,rfl⟩;rw[←hr,←hB] at hov;have hr4:r< 10000:=by rw[hr];exact Nat.mod_lt _ (by decide)
 have hzr:(zd r).length≤4:=by
  rw[bm_];exact cm_ (b:=UB) (by decide) (k:=4) (Nat.lt_trans hr4 (by decide))
 have hsh:=kA_ (zd r) hzr (zd_lt r);rw[hv_zd] at hsh;obtain⟨T,hT⟩:∃T,T=pd (4* k) n:=⟨_,rfl⟩;have hTl:T.length=4* k:=by rw[hT,lJ_]
 rw[←hT];refine s_r 8 ?_;refine a_2 ?_;refine o_1 (.callS1 rfl rfl rfl (.keep (.shut rfl d_n (.nil))) rfl (hov)) ?_;refine a_z ?_;refine r_c 3 (hsh) ?_;refine a_z ?_;refine ab_ (r_z 1 ?_);refine av_ (ztI z r B T) (fun i=>i=4) ?_ ?_;refine af_ (aq_ (ztI z r B T) (fun i=>4- i) (fun i=>i≤4) 0 (by decide) ?_ ?_);simp only[ztI.eq_1];have e:((r/ 10^ 0:Nat):Int)=r:=by simp
 rw[e];exact s_f [];rintro i hi;simp only[ztI.eq_1];by_cases h4:i< 4;refine ab_ (q_z 2 ?_);refine cT (ah_ (ab_ (af_ ?_)));obtain⟨c,hc⟩:∃c,c=r/ 10^ i:=⟨_,rfl⟩;rw[←hc];have hcr:c≤r:=by rw[hc];exact Nat.div_le_self _ _
 have hsz:[UInt8.ofNat (48+c % 10)].length+(pd i r++T).length≤9223372036854775807:=by
  rw[List.length_append,lJ_,hTl];simp only[List.length_cons,List.length_nil];omega
 refine s_r 9 ?_;refine a_5 ?_;refine o_0 (.slice_v rfl rfl rfl rfl (dig_text (c % 10) _ _ (by omega) (by omega) (by omega))) ?_;refine a_1 ?_;refine o_0 (.bin rfl rfl (cI_ (l:=[UInt8.ofNat (48+c % 10)]) (m:=pd i r++T) hsz)) ?_;refine a_z ?_;refine r_m 3 ?_;refine a_z ?_;refine r_m 3 ?_;refine a_z ?_;refine⟨i+1,by omega,h4,?_⟩;have e1:pd (i+1) r++T=[UInt8.ofNat (48+c % 10)]++(pd i r++T):=by rw[pd_front,←hc];rfl
 have e2:((r/ 10^ (i+1):Nat):Int)=(c:Int) / 10:=by rw[Nat.pow_succ,←Nat.div_div_eq_div_mul,←hc];omega
 show SEnt _ ⟨[(1,.aptr [zZ z] 0 0),(3,tx (pd (i+1) r++T)),(5,.arr (iE (zd B))),(7,i64 ((r/ 10^ (i+1):Nat):Int)),(8,i64 ((i+1:Nat):Int))],[],2,_⟩;rw[e1,e2];exact s_f [];refine ab_ (q_z 2 ?_);refine cF (ao_ ⟨i,by omega,?_⟩);simp only[ztI.eq_1];exact s_f [];rintro _ rfl;rw[ztI.eq_1];refine r_m 2 ?_;refine a_z ?_;have e0:n/ 10^ (4* (k+1))=B:=by rw[hB,hA,Nat.div_div_eq_div_mul,show 4* (k+1)=4* k+4 by omega,Nat.pow_add]
 refine⟨k+1,?_,.inr ?_,?_⟩;show n/ 10^ (4* (k+1))< A;rw[e0];omega;show 0< n/ 10^ (4* (k+1- 1));rw[Nat.add_sub_cancel,←hA];omega
 have e1:pd (4* (k+1)) n=pd 4 r++T:=by
  rw[show 4* (k+1)=4+4* k by omega,pd_add,←hA,←hT,hr];congr 1;exact(pd_mod 4 A).symm
 show SEnt _ ⟨[(1,.aptr [zZ z] 0 0),(3,tx (pd (4* (k+1)) n)),(4,.arr (iE (zd (n/ 10^ (4* (k+1))))))],[],2,_⟩;rw[e0,e1];exact s_f [];rintro T ⟨K,hT,hK,hKl⟩;have hdz:dropZ T=Lib.decDigits n:=by rw[hT];exact oI_ K n hn0 hK
 clear hT hK hKl;simp only[ztD.eq_1];refine aQ_ (ztD z) (fun T=>T=Lib.decDigits n) ?_ ?_;refine af_ (aq_ (ztD z) (fun T=>T.length) (fun T=>dropZ T=Lib.decDigits n) T hdz ?_ ?_);simp only[ztD.eq_1];exact s_f [];intro T hT;simp only[ztD.eq_1];cases T with
 |nil=>exact absurd hT.symm (hl_ n)
 |cons c T=>
  rw[dropZ] at hT;by_cases hc:c=48;rw[if_pos hc] at hT;refine ab_ (s_r 3 ?_);refine a_1 ?_;refine o_0 (.index_s rfl rfl first_text) ?_;refine o_0 (.bin rfl rfl (vT aS_ ((by rw[hc];rfl)))) ?_;refine ak_ ?_;refine cT (ah_ (af_ (r_m 3 ?_)));refine a_1 ?_;refine o_0 (.slice_v rfl rfl rfl rfl (qd_ c T)) ?_;refine a_z ?_;refine⟨T,by simp,hT,?_⟩;show SEnt _ ⟨[(1,.aptr [zZ z] 0 0),(3,tx T)],[],2,_⟩;exact s_f [];rw[if_neg hc] at hT
  have hne:(((c.toNat:Nat):Int)==48)=false:=by
   rw[beq_eq_false_iff_ne];intro e
   exact hc (UInt8.toNat_inj.1 (by have:c.toNat=48:=by omega
                                   exact this))
  refine ab_ (s_r 3 ?_);refine a_1 ?_;refine o_0 (.index_s rfl rfl first_text) ?_;refine o_0 (.bin rfl rfl (vF aS_ (hne))) ?_;refine ak_ ?_;refine cF (ao_ ⟨c::T,hT,?_⟩);show SEnt _ ⟨[(1,.aptr [zZ z] 0 0),(3,tx (c::T))],[],2,_⟩;exact s_f []
 rintro T rfl;simp only[ztD.eq_1];have hdl2:=jW_ n;by_cases hneg:z< 0;refine ab_ (s_r 3 ?_);refine a_2 ?_;refine o_0 (.bin rfl rfl (vT aT_ ((by unfold sgZ;rw[if_neg h0,if_pos hneg];rfl)))) ?_;refine ak_ ?_;refine cT (s_r 3 ?_);refine a_1 ?_;refine o_0 (.bin rfl rfl (cI_ (l:=[45]) (by simp;omega))) ?_;refine a_z ?_;exact ag_ (aH_ rfl (by unfold ztx;rw[if_pos hneg,hn]) (ad_ _));refine ab_ (s_r 3 ?_);refine a_2 ?_;refine o_0 (.bin rfl rfl (vF aT_ ((by unfold sgZ;rw[if_neg h0,if_neg hneg];rfl)))) ?_;refine ak_ ?_;refine cF (ah_ (r_z 2 ?_));exact ag_ (aH_ rfl (by unfold ztx;rw[if_neg hneg,hn];rfl) (ad_ _))
end Go.Proofs.YtjkddcfoolilbaaGreatDoor
