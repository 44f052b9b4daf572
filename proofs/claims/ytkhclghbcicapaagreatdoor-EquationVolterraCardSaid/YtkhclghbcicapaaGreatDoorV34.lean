/- Part V34 of the proof. -/
import Derived.Test.YtkhclghbcicapaaGreatDoorV33
import Derived.ChangeSame
import Derived.ProofKit
import Derived.OpenShut
import Derived.Carry
import Derived.Deep.Slices
import Derived.Deep.Strs
import Derived.ChangeArms
set_option linter.all false
namespace Go.Proofs.YtkhclghbcicapaaGreatDoor
open Go.Abs
set_option maxRecDepth 20000
set_option maxHeartbeats 4000000
theorem H8{l:List iA}(ho:∀t∈l,zk t)(h:uy l=true):(keM l).length≤1000∧(∀p∈keM l,p.1.length≤30∧p.2.length≤30)∧(vaB (keM l)=true→(keM l).length≤3∧(∀p∈keM l,p.1.length≤4∧p.2.length≤4)∧∀p∈keM l,bdL p.1 20∧bdL p.2 20):=by
 unfold uy at h;rw[Bool.and_eq_true,List.all_eq_true] at h;obtain⟨h1,m⟩:=h
 have g:l.length≤12∧(3< l.length→8< l.length):=by
  unfold yb at h1;simp only[Bool.not_eq_true',Bool.or_eq_false_iff,Bool.and_eq_false_iff,decide_eq_false_iff_not] at h1;omega
 have hp:∀p∈keM l,∃t∈l,p=(nL t.1,nL t.2):=fun p hp=>by
  obtain⟨t,ht,e⟩:=List.mem_map.1 hp;exact⟨t,ht,e.symm⟩
 have hs:∀t∈l,t.1.length≤30∧t.2.length≤30∧gC t.1=true∧gC t.2=true:=fun t ht=>by
  have f:=m t ht;unfold jd ya at f;simp only[Bool.and_eq_true,Bool.not_eq_true',Bool.or_eq_false_iff,decide_eq_false_iff_not] at f;exact⟨by omega,by omega,f.2.1,f.2.2⟩
 refine⟨by rw[gH];omega,fun p b=>?_,fun hv=>?_⟩;obtain⟨t,ht,rfl⟩:=hp p b;obtain⟨j,k,_,_⟩:=hs t ht;exact⟨by simpa[nL] using j,by simpa[nL] using k⟩;unfold vaB at hv;simp only[Bool.and_eq_true,Bool.not_eq_true',decide_eq_true_eq] at hv;obtain⟨v1,v2⟩:=hv;rw[gH] at v2
 have hb:∀t∈l,(bdL (nL t.1) 20∧(nL t.1).length≤4)∧bdL (nL t.2) 20∧(nL t.2).length≤4:=fun t ht=>by
  obtain⟨_,_,d,c⟩:=hs t ht
  have a:tT (nL t.1,nL t.2)=false:=by
   have:=List.any_eq_false.1 v1 (nL t.1,nL t.2) (List.mem_map.2 ⟨t,ht,rfl⟩);simpa using this
  unfold tT at a;rw[Bool.or_eq_false_iff] at a;unfold gC at d c
  have i:gz t.1 4=true:=by
   rw[Bool.or_eq_true] at d;rcases d with d|d
   exact d;rw[a.1] at d;cases d
  have n:gz t.2 4=true:=by
   rw[Bool.or_eq_true] at c;rcases c with c|c
   exact c;rw[a.2] at c;cases c
  exact⟨qD i (ho t ht).1.1,qD n (ho t ht).1.2⟩
 refine⟨by rw[gH];omega,fun p b=>?_,fun p b=>?_⟩;obtain⟨t,ht,rfl⟩:=hp p b;exact⟨(hb t ht).1.2,(hb t ht).2.2⟩;obtain⟨t,ht,rfl⟩:=hp p b;exact⟨(hb t ht).1.1,(hb t ht).2.1⟩
def bNu(r:fK):AV:= .aptr [nuC r.1 r.2.1 r.2.2] 0 0
theorem dQ(r:fK):∀c∈nuC r.1 r.2.1 r.2.2,Closed c:=ac (ah _) (ac (ah _) (ac (ah _) ag))
theorem wR(r:fK):Closed (bNu r):=bC (dQ r)
theorem pE_get{p:List Rat}{i:Nat}{q:Rat}(h:p[i]?=some q):∀e,e=i→(pE p)[e]?=some (qC q):=fun e a=>by
 subst a;simp[pE,h]





def cR(l:List (List Rat)):List (List AV):=l.map fun p=>[.arr (rE (rP p))]
@[simp] theorem cR_length (l:List (List Rat)):(cR l).length=l.length:=by simp[cR]




def okW(m:List Rat)(l r:Bool)(a b:Rat):Prop:=1≤m.length∧m.length≤64∧(l=true→r=true→a< b)
instance (m:List Rat) (l r:Bool) (a b:Rat):Decidable (okW m l r a b):=inferInstanceAs (Decidable (_∧_∧_))
end Go.Proofs.YtkhclghbcicapaaGreatDoor
namespace Go.Proofs.YtkhclghbcicapaaGreatDoor
open Go.Abs Go.Deep Go.RowKit Go.WideShapes
set_option maxRecDepth 20000

end Go.Proofs.YtkhclghbcicapaaGreatDoor
namespace Go.Proofs.YtkhclghbcicapaaGreatDoor
open Go.Abs Go.ChangeShapes Go.Deep Go.RowKit Go.WideShapes
set_option maxRecDepth 20000

end Go.Proofs.YtkhclghbcicapaaGreatDoor
namespace Go.Proofs.YtkhclghbcicapaaGreatDoor
open Go.Abs
set_option maxRecDepth 20000
set_option maxHeartbeats 2000000


def bdN(n:Int):Prop:=n< 0∨63< n
def bdP(p:Int):Prop:=p< 0∨8< p
instance (n:Int):Decidable (bdN n):=inferInstanceAs (Decidable (_∨_))
instance (n:Int):Decidable (bdP n):=inferInstanceAs (Decidable (_∨_))








end Go.Proofs.YtkhclghbcicapaaGreatDoor
namespace Go.Proofs.YtkhclghbcicapaaGreatDoor
open Go.Abs Go.Deep Go.RowKit Go.WideShapes
set_option maxRecDepth 20000
theorem tyu8:(Tryz.prog).underlying 5=some (.int .u8):=by kernel_rfl
theorem u8P_of{H:Type}{enc:TypeId×Value→H}{W:World}{base:Nat}{v:Value}{d:DataW H}{ps:List MemPlace}(hv:Value.okWide Tryz.prog W .any base 5 v)(h:DataW.Trod enc Tryz.prog W 0 (fun _=>true) true 5 v d ps):
    ∃r:Nat,r≤255∧RV (fun _=>False) (fun _=>none) W (.v (.int .u8 r)) v:=by
 obtain⟨n,rfl⟩:∃n,v= .int .u8 n:=by
  unfold Value.okWide at hv;rw[tyu8] at hv;cases v with
  |int k n=>obtain⟨rfl,_⟩:=hv;exact⟨n,rfl⟩
  |_=>exact False.elim hv
 obtain⟨a,hf⟩:=h;obtain⟨c,e0,_,f⟩:=DataW.trod_int tyu8 hf;have e:n=c:=by simpa[Value.cells] using e0
 subst e;have b:=bounds_u8 f;refine⟨n.toNat,by omega,?_⟩;show _=Value.int .u8 ((n.toNat:Nat):Int);rw[Int.toNat_of_nonneg b.1]
end Go.Proofs.YtkhclghbcicapaaGreatDoor
namespace Go.Proofs.YtkhclghbcicapaaGreatDoor
open Go.Abs Go.ChangeShapes Go.Deep Go.RowKit Go.WideShapes
set_option maxRecDepth 20000

end Go.Proofs.YtkhclghbcicapaaGreatDoor
namespace Go.Proofs.YtkhclghbcicapaaGreatDoor
open Go.Abs
set_option maxRecDepth 20000
set_option maxHeartbeats 4000000

section
variable {T:List Rat}{n:Nat}(hn:1≤n∧n≤5)(hl:T.length=n+1)(ht:aj T=T)(hm:aF T=1)(hb:bdL T 20)
include hn hl ht hm hb
end


abbrev mrow(M:Mx)(n i:Nat):List (List AV):=rE (rP (aW (n+1) (M i)))
def mxW(M:Mx)(n c:Nat):List (List (List AV)):=(List.range c).map (mrow M n)
@[simp] theorem mxW_length (M:Mx)(n c:Nat):(mxW M n c).length=c:=by simp[mxW]
def svA(M:Mx)(n:Nat):List (List AV):=(List.range n).map fun i=>[.arr (rE (rP (aW n (M i))))]
@[simp] theorem svA_length (M:Mx)(n:Nat):(svA M n).length=n:=by simp[svA]
def svC(M:Mx)(n c:Nat):List (List AV):=(List.range c).map fun i=>[.arr (rE (rP (aW n (M i))))]
@[simp] theorem svC_length (M:Mx)(n c:Nat):(svC M n c).length=c:=by simp[svC]
structure TmK (k:Ke):Prop where
 l:k.length≤3
 n:∀p∈k,p.1.length≤4∧p.2.length≤4
 b:∀p∈k,bdL p.1 20∧bdL p.2 20

theorem DC(a b:Rat)(ha:qs a≤20)(hb:qs b≤20):FS 32 [.agg (rC (rq a)++rC (rq b))] (bln (decide (a≤b))):=by
 have hc:=fs_rCmp (rq a) (rq b) (vM _) (vM _) (by show qs a+qs b≤_;omega);have d:∀c∈rC (rq a)++rC (rq b),Closed c:=fun c hc=>(List.mem_append.1 hc).elim (hZ _ c) (hZ _ c)
 have e:(decide (dB a b≤0))=decide (a≤b):=by
  unfold dB;by_cases h1:a< b;rw[if_pos h1,decide_eq_true (show a≤b by grind)];rfl;rw[if_neg h1];by_cases h2:a=b;rw[if_pos h2,decide_eq_true (show a≤b by grind)];rfl;rw[if_neg h2,decide_eq_false (show¬a≤b by grind)];rfl
 rw[←e];refine f_c Tryz.func32 ?_;refine r_z 2 ?_;refine r_c 7 (hc) ?_;refine a_z ?_;exact ak (t_e (ah _))
theorem ke_arr(l:List iA)(ho:∀t∈l,zk t)(hl:l.length≤9223372036854775807):∃K1 K2 b,FS 28 [.arr (twR l)] (.tup [.arr K1,.arr K2,bln b])∧Closed (.arr K1)∧Closed (.arr K2)∧(b=true→K1=kE (keM l)∧K2=keR (keM l)∧uy l=true):=by
 have h:=DP l ho hl;unfold keV at h;cases e:uy l with
 |true=>rw[e] at h;exact⟨_,_,true,h,aX _,gO _,fun _=>⟨rfl,rfl,rfl⟩⟩
 |false=>rw[e] at h;exact⟨_,_,false,h,aX _,gO _,fun h=>by cases h⟩
theorem ri_arr(l:List fK)(ho:okR l)(hl:l.length≤9223372036854775807):∃k1 k2 b,FS 29 [.arr (nR l)] (.tup [.arr k1,.arr k2,bln b])∧Closed (.arr k1)∧Closed (.arr k2)∧(b=true→k1=pE (nL l)∧k2=rE (rP (nL l))∧l.length≤40∧(gz l 5=true∨20< cQ (nL l))):=by
 have h:=Gt l ho hl;by_cases e:40< l.length;rw[if_pos e] at h;exact⟨_,_,false,h,aC _,fQ _,fun h=>by cases h⟩;rw[if_neg e] at h;exact⟨_,_,_,h,aC _,fQ _,fun h=>⟨rfl,rfl,by omega,by simpa using h⟩⟩
structure Posed (l:List iA)(ar br cr:fK)(gr:List fK):Prop where
 va:vaB (keM l)=true
 t:TmK (keM l)
 ok:qZ (keM l)
 dg:cQ (nL gr)≤20
 bg:bdL (nL gr) 20
 lg:(nL gr).length≤5
 qa:qs (nV ar)≤20
 qb:qs (nV br)≤20
 qc:qs (nV cr)≤20
 ab:nV ar≤nV br
theorem Ix(l:List iA)(ar br cr:fK)(gr:List fK)(ho:∀t∈l,zk t)(hll:l.length≤9223372036854775807)(ha:okN ar)(hb:okN br)(hc:okN cr)(hg:okR gr)(hgl:gr.length≤9223372036854775807):
    ∃(k1 g1:List (List AV)) (b:Bool),FS 5 [.arr (twR l),.agg (nuC ar.1 ar.2.1 ar.2.2++nuC br.1 br.2.1 br.2.2),.agg (nuC cr.1 cr.2.1 cr.2.2),.arr (nR gr)] (.tup [.agg (.arr k1::(qC (nV cr)++[.arr g1])),.agg (spC (nV ar) (nV br)),bln b])∧Closed (.arr k1)∧Closed (.arr g1)∧(b=true→k1=kE (keM l)∧g1=pE (nL gr)∧Posed l ar br cr gr):=by
 obtain⟨k1,N,H,m,n,J,w⟩:=ke_arr l ho hll;obtain⟨g1,O,G,f,u,E,C⟩:=ri_arr gr hg hgl;have ht:=rU [ar,br,cr] 3 (by simp) (by decide);have j:=Aa ar.1 ar.2.1 br.1 br.2.1 ar.2.2 br.2.2 ha.1 ha.2.1 ha.2.2 hb.1 hb.2.1 hb.2.2;have b2:=jN cr.1 cr.2.1 cr.2.2 hc.1 hc.2.1 hc.2.2;have v:∀c∈nuC ar.1 ar.2.1 ar.2.2++nuC br.1 br.2.1 br.2.2,Closed c:=fun c hc=>(List.mem_append.1 hc).elim (dQ ar c) (dQ br c);have d:∀c∈ .arr k1::(qC (nV cr)++[.arr g1]),Closed c:=ac n fun c hc=>(List.mem_append.1 hc).elim (a7 _ c) (ac u ag c)
 have i:∀b:Bool,FS 5 [.arr (twR l),.agg (nuC ar.1 ar.2.1 ar.2.2++nuC br.1 br.2.1 br.2.2),.agg (nuC cr.1 cr.2.1 cr.2.2),.arr (nR gr)] (.tup [.agg (.arr k1::(qC (nV cr)++[.arr g1])),.agg (spC (nV ar) (nV br)),bln b])→(b=true→k1=kE (keM l)∧g1=pE (nL gr)∧Posed l ar br cr gr)→
  ∃(k1 g1:List (List AV)) (b:Bool),FS 5 [.arr (twR l),.agg (nuC ar.1 ar.2.1 ar.2.2++nuC br.1 br.2.1 br.2.2),.agg (nuC cr.1 cr.2.1 cr.2.2),.arr (nR gr)] (.tup [.agg (.arr k1::(qC (nV cr)++[.arr g1])),.agg (spC (nV ar) (nV br)),bln b])∧Closed (.arr k1)∧Closed (.arr g1)∧(b=true→k1=kE (keM l)∧g1=pE (nL gr)∧Posed l ar br cr gr):=fun b h1 M=>
  ⟨k1,g1,b,h1,n,u,M⟩
 cases H with
 |false=>
  refine i false ?_ (fun h=>by cases h);refine f_n Tryz.func5 ?_ ?_;exact ac (dr l) (ac (aB v) (ac (aB (dQ cr)) (ac (aK (cU gr)) ag)));refine r_z 5 ?_;refine r_c 9 (m) ?_;refine a_z ?_;refine r_c 9 (f) ?_;refine a_z ?_;refine r_c 9 (j) ?_;refine a_z ?_;refine r_c 9 (b2) ?_;refine a_z ?_;refine r_z 6 ?_;refine ae (r_d ba 28 ?_);refine d_8 ?_;refine d_8 ?_;refine d_8 ?_;refine d_4 ?_;refine au (n_k ?_);refine ak (Fin.many ⟨_,_,rfl,⟨_,_,_,_,_,rfl,rfl,rfl,.inl ⟨TG.h,_,TS.h,nle rfl,rfl⟩⟩,⟨_,_,rfl,⟨_,_,_,_,_,rfl,rfl,rfl,.inl ⟨TG.h,_,TS.h,nle rfl,rfl⟩⟩,⟨_,_,rfl,rfl,rfl⟩⟩⟩ (nle rfl) ?_);exact ai (ao ay (aB d)) (ai (ao ay (aB (bi _ _))) (ai (ao ay (ah _)) aw))
 |true=>
 cases G with
 |false=>
  refine i false ?_ (fun h=>by cases h);refine f_n Tryz.func5 ?_ ?_;exact ac (dr l) (ac (aB v) (ac (aB (dQ cr)) (ac (aK (cU gr)) ag)));refine r_z 5 ?_;refine r_c 9 (m) ?_;refine a_z ?_;refine r_c 9 (f) ?_;refine a_z ?_;refine r_c 9 (j) ?_;refine a_z ?_;refine r_c 9 (b2) ?_;refine a_z ?_;refine r_z 6 ?_;refine ae (r_d ba 28 ?_);refine d_8 ?_;refine d_8 ?_;refine d_8 ?_;refine d_4 ?_;refine au (n_k ?_);refine ak (Fin.many ⟨_,_,rfl,⟨_,_,_,_,_,rfl,rfl,rfl,.inl ⟨TG.h,_,TS.h,nle rfl,rfl⟩⟩,⟨_,_,rfl,⟨_,_,_,_,_,rfl,rfl,rfl,.inl ⟨TG.h,_,TS.h,nle rfl,rfl⟩⟩,⟨_,_,rfl,rfl,rfl⟩⟩⟩ (nle rfl) ?_);exact ai (ao ay (aB d)) (ai (ao ay (aB (bi _ _))) (ai (ao ay (ah _)) aw))
 |true=>
 cases et:gz [ar,br,cr] 3 with
 |false=>
  rw[et] at ht;refine i false ?_ (fun h=>by cases h);refine f_n Tryz.func5 ?_ ?_;exact ac (dr l) (ac (aB v) (ac (aB (dQ cr)) (ac (aK (cU gr)) ag)));refine r_z 5 ?_;refine r_c 9 (m) ?_;refine a_z ?_;refine r_c 9 (f) ?_;refine a_z ?_;refine r_c 9 (j) ?_;refine a_z ?_;refine r_c 9 (b2) ?_;refine a_z ?_;refine r_z 6 ?_;refine ae (r_d ba 28 ?_);refine d_8 ?_;refine d_4 ?_;refine AR.op1y rfl rfl rfl (.buildSlice te_25.h TZ.h rfl (by decide) rfl rfl rfl (by simp[nuC])) rfl rfl ?_;refine AR.op1y rfl rfl rfl (.callS1 rfl rfl rfl (.shut rfl d_n (.keep (.nil))) rfl (ht)) rfl rfl ?_;refine d_8 ?_;refine d_6 ?_;refine au (n_k ?_);refine ak (Fin.many ⟨_,_,rfl,⟨_,_,_,_,_,rfl,rfl,rfl,.inl ⟨TG.h,_,TS.h,nle rfl,rfl⟩⟩,⟨_,_,rfl,⟨_,_,_,_,_,rfl,rfl,rfl,.inl ⟨TG.h,_,TS.h,nle rfl,rfl⟩⟩,⟨_,_,rfl,rfl,rfl⟩⟩⟩ (nle rfl) ?_);exact ai (ao ay (aB d)) (ai (ao ay (aB (bi _ _))) (ai (ao ay (ah _)) aw))
 |true=>
 rw[et] at ht;obtain⟨rfl,rfl,s⟩:=w rfl;obtain⟨rfl,rfl,k,y⟩:=C rfl
 have B:okR [ar,br,cr]:=fun r f=>by
  simp only[List.mem_cons,List.not_mem_nil,or_false] at f;rcases f with rfl|rfl|rfl
  exact ha;exact hb;exact hc
 obtain⟨z,_⟩:=qD et B;have qa:qs (nV ar)≤20:=z _ (by simp[nL]);have qb:qs (nV br)≤20:=z _ (by simp[nL]);have qc:qs (nV cr)≤20:=z _ (by simp[nL]);have A:(nL gr).length≤40:=by simpa[nL] using k
 have e:cQ (nL gr)≤20→bdL (nL gr) 20∧(nL gr).length≤5:=fun h=>by
  rcases y with h1|h1
  exact qD h1 hg;omega
 obtain⟨K,D,F⟩:=H8 ho s;have x:∀p∈keM l,p.1.length≤1099511627776∧p.2.length≤1099511627776:=fun p hp=>by have:=D p hp;omega
 have a:=II (keM l) (nL gr) K (fun p hp=>by have:=D p hp;omega) (by omega);have o:=DC (nV ar) (nV br) qa qb;cases eb:(!vaB (keM l)||decide (20< cQ (nL gr))) with
 |true=>
  rw[eb] at a;refine i false ?_ (fun h=>by cases h);refine f_n Tryz.func5 ?_ ?_;exact ac (dr l) (ac (aB v) (ac (aB (dQ cr)) (ac (aK (cU gr)) ag)));refine r_z 5 ?_;refine r_c 9 (m) ?_;refine a_z ?_;refine r_c 9 (f) ?_;refine a_z ?_;refine r_c 9 (j) ?_;refine a_z ?_;refine r_c 9 (b2) ?_;refine a_z ?_;refine r_z 6 ?_;refine ae (r_d ba 28 ?_);refine d_8 ?_;refine d_4 ?_;refine AR.op1y rfl rfl rfl (.buildSlice te_25.h TZ.h rfl (by decide) rfl rfl rfl (by simp[nuC])) rfl rfl ?_;refine AR.op1y rfl rfl rfl (.callS1 rfl rfl rfl (.shut rfl d_n (.keep (.nil))) rfl (ht)) rfl rfl ?_;refine e_s (a) ?_;refine d_8 ?_;refine m_1 ?_;refine au (n_k ?_);refine ak (Fin.many ⟨_,_,rfl,⟨_,_,_,_,_,rfl,rfl,rfl,.inl ⟨TG.h,_,TS.h,nle rfl,rfl⟩⟩,⟨_,_,rfl,⟨_,_,_,_,_,rfl,rfl,rfl,.inl ⟨TG.h,_,TS.h,nle rfl,rfl⟩⟩,⟨_,_,rfl,rfl,rfl⟩⟩⟩ (nle rfl) ?_);exact ai (ao ay (aB d)) (ai (ao ay (aB (bi _ _))) (ai (ao ay (ah _)) aw))
 |false=>
 rw[eb] at a;rw[Bool.or_eq_false_iff] at eb;have g:vaB (keM l)=true:=by simpa using eb.1
 have q:cQ (nL gr)≤20:=by have:=of_decide_eq_false eb.2;omega
 obtain⟨v1,v2,L⟩:=F g;obtain⟨bg,lg⟩:=e q;refine i (decide (nV ar≤nV br)) ?_ (fun h=>⟨rfl,rfl,g,⟨v1,v2,L⟩,okKe_va g x,q,bg,lg,qa,qb,qc,of_decide_eq_true h⟩);refine f_n Tryz.func5 ?_ ?_;exact ac (dr l) (ac (aB v) (ac (aB (dQ cr)) (ac (aK (cU gr)) ag)));refine r_z 5 ?_;refine r_c 9 (m) ?_;refine a_z ?_;refine r_c 9 (f) ?_;refine a_z ?_;refine r_c 9 (j) ?_;refine a_z ?_;refine r_c 9 (b2) ?_;refine a_z ?_;refine r_z 6 ?_;refine ae (r_d ba 28 ?_);refine d_8 ?_;refine d_4 ?_;refine AR.op1y rfl rfl rfl (.buildSlice te_25.h TZ.h rfl (by decide) rfl rfl rfl (by simp[nuC])) rfl rfl ?_;refine AR.op1y rfl rfl rfl (.callS1 rfl rfl rfl (.shut rfl d_n (.keep (.nil))) rfl (ht)) rfl rfl ?_;refine e_s (a) ?_;refine e_s (o) ?_;refine a_4 ?_;refine au (n_k ?_);refine ak (Fin.many ⟨_,_,rfl,⟨_,_,_,_,_,rfl,rfl,rfl,.inl ⟨TG.h,_,TS.h,nle rfl,rfl⟩⟩,⟨_,_,rfl,⟨_,_,_,_,_,rfl,rfl,rfl,.inl ⟨TG.h,_,TS.h,nle rfl,rfl⟩⟩,⟨_,_,rfl,rfl,rfl⟩⟩⟩ (nle rfl) ?_);exact ai (ao ay (aB d)) (ai (ao ay (aB (bi _ _))) (ai (ao ay (ah _)) aw))
theorem yU{z:List Rat}{a x:Rat}(hl:z.length≤5)(hb:bdL z 20)(ha:qs a≤20)(hx:qs x≤20):
    ∃m:Rat,FS 88 [.agg (spC (eV [a,x]) (dM [a,x])++[i64 10]),.arr (pE z)] (.agg (qC m))∧qs m≤100000∧∀y,eV [a,x]≤y→y≤dM [a,x]→ab (af z y)≤m:=by
 obtain⟨K,H⟩:=o8 z hb;have H:=H.mono (show _≤2000 by omega);obtain⟨m1,m2⟩:=rn a x;obtain⟨lo,c⟩:∃lo,lo=eV [a,x]:=⟨_,rfl⟩;obtain⟨b,d⟩:∃b,b=dM [a,x]:=⟨_,rfl⟩;rw[←c,←d] at m1 m2⊢;have q1:qs lo≤20∧qs b≤20:=by rcases m2 with⟨rfl,rfl⟩|⟨rfl,rfl⟩<;> exact⟨by assumption,by assumption⟩
 have h:=bO z;obtain⟨v,v1,v2,k,f⟩:=Gu (K:=K) (show z.length≤24 by omega) (by omega) (H.bdL (by omega)) H m1 (ab_p2 q1.1) (ab_p2 q1.2) (by omega) (by omega);refine⟨tW v,fs_size z lo b v v1 (by unfold sm;omega) (by unfold sm;omega),absH_qs v2 k (by omega),fun y i e=>?_⟩;obtain⟨j,g⟩:=f y i e;exact absH_le j g
theorem Ez(al be:List Rat×List Rat→Rat)(k:Ke):∀n,n≤k.length→stZ (fun i=>al (k.getD i ([],[]))) (fun i=>be (k.getD i ([],[]))) n=e9 (fun p=>al p* be p) (k.take n)
 |0,_=>rfl
 |n+1,h=>by
  have hp:k[n]?=some k[n]:=List.getElem?_eq_getElem (by omega);have a:k.getD n ([],[])=k[n]:=by rw[List.getD_eq_getElem?_getD,hp];rfl
  have ht:k.take (n+1)=k.take n++[k[n]]:=by rw[List.take_add_one,hp];rfl
  rw[stZ,Ez al be k n (by omega),ht,xK,a]
theorem Gn(k:Ke)(l:Rat)(g:List Rat)(a x w:Rat)(hke:qZ k)(hdg:cQ g≤20)(hgl:g.length≤1099511627776)(wp:w≤0):
    FS 17 [.agg (eqC k l g),.agg (qC a),.agg (qC x),.agg (qC w)] (.tup [.agg (spC 0 0),i64 2]):=by
 have d:=cG k l g;have c:=mP k l g hke hdg hgl
 have b:sgZ w.num≤0:=by
  have h1:¬0< w:=by grind
  have e:=mt sgZ_num_gt.1 h1;omega
 refine f_c Tryz.func17 ?_;refine r_z 6 ?_;refine r_z 5 ?_;refine ae (r_c 7 (c) ?_);refine e_s (cx w) ?_;refine d_z ?_;refine cT (r_z 3 ?_);refine ak ?_;rw[Hi];refine Fin.many ⟨_,_,rfl,⟨_,_,_,_,_,rfl,rfl,rfl,.inl ⟨TG.h,_,TS.h,nle rfl,rfl⟩⟩,⟨_,_,rfl,rfl,rfl⟩⟩ (nle rfl) ?_;exact ai (Cv.agg (ai (Cv.emp _) (ai (ao ay (ah _)) (ai (Cv.emp _) (ai (Cv.emp _) (ai (ao ay (ah _)) (ai (Cv.emp _) aw))))))) (ai (ao ay (ah _)) aw)
theorem GX{k:Ke}{G:List Rat}{L a x:Rat}(hk:TmK k)(hok:qZ k)(hg:G.length≤5)(bg:bdL G 20)(qL:qs L≤20)(qa:qs a≤20)(qx:qs x≤20):
    ∃(al be:List Rat×List Rat→Rat) (ga:Rat),(∀p∈k,∀y,eV [a,x]≤y→y≤dM [a,x]→ab (af p.1 y)≤al p)∧(∀p∈k,∀y,eV [a,x]≤y→y≤dM [a,x]→ab (af p.2 y)≤be p)∧(∀y,eV [a,x]≤y→y≤dM [a,x]→ab (af G y)≤ga)∧
    ∀w,qs w≤20→∃(lo hi:Rat) (er:Int),FS 17 [.agg (eqC k L G),.agg (qC a),.agg (qC x),.agg (qC w)] (.tup [.agg (spC lo hi),i64 er])∧sm lo∧sm hi∧(er=5∨er=2∧w≤0∨er=0∧0< w∧∃n:Nat,stP (e9 (fun p=>al p* be p) k* ab L* (dM [a,x]- eV [a,x])) (ga* 4) w n=true∧lo=suK k G L a x (n+1)- w/ 2∧hi=suK k G L a x (n+1)+w/ 2):=by
 have o:cQ G≤20:=by have:=Am G (n:=4) (by omega);omega
 have h1:∀p:List Rat×List Rat,∃m:Rat,p∈k→FS 88 [.agg (spC (eV [a,x]) (dM [a,x])++[i64 10]),.arr (pE p.1)] (.agg (qC m))∧qs m≤100000∧∀y,eV [a,x]≤y→y≤dM [a,x]→ab (af p.1 y)≤m:=fun p=>by
  by_cases hp:p∈k;obtain⟨m,h⟩:=yU (z:=p.1) (by have:=(hk.n p hp).1;omega) (hk.b p hp).1 qa qx;exact⟨m,fun _=>h⟩;exact⟨0,fun h=>absurd h hp⟩
 have B:∀p:List Rat×List Rat,∃m:Rat,p∈k→FS 88 [.agg (spC (eV [a,x]) (dM [a,x])++[i64 10]),.arr (pE p.2)] (.agg (qC m))∧qs m≤100000∧∀y,eV [a,x]≤y→y≤dM [a,x]→ab (af p.2 y)≤m:=fun p=>by
  by_cases hp:p∈k;obtain⟨m,h⟩:=yU (z:=p.2) (by have:=(hk.n p hp).2;omega) (hk.b p hp).2 qa qx;exact⟨m,fun _=>h⟩;exact⟨0,fun h=>absurd h hp⟩
 obtain⟨al,f⟩:=Classical.axiomOfChoice h1;obtain⟨be,g⟩:=Classical.axiomOfChoice B;obtain⟨ga,A,D,g3⟩:=yU (z:=G) hg bg qa qx;obtain⟨m1,m2⟩:=rn a x;have q1:qs (eV [a,x])≤20∧qs (dM [a,x])≤20:=by rcases m2 with⟨e1,e2⟩|⟨e1,e2⟩<;> rw[e1,e2]<;> exact⟨by assumption,by assumption⟩
 refine⟨al,be,ga,fun p hp=>(f p hp).2.2,fun p hp=>(g p hp).2.2,g3,fun w J=>?_⟩;by_cases wp:w≤0;exact⟨0,0,2,Gn k L G a x w hok o (by omega) wp,by decide,by decide,.inr (.inl ⟨rfl,wp⟩)⟩;have wp:0< w:=by grind
 have d:=hk.l
 obtain⟨n,ok,s1,s2⟩:=It k L G a x w (fun i=>al (k.getD i ([],[]))) (fun i=>be (k.getD i ([],[]))) ga 100000 (by omega) (by unfold sm;omega) (by unfold sm;omega) (by omega) (by omega) (by omega) (by omega) (fun i z u=>by
  have r:=List.mem_of_getElem? u;have e:k.getD i ([],[])=z:=by rw[List.getD_eq_getElem?_getD,u];rfl
  simp only[e];exact⟨(f z r).1,(g z r).1,(f z r).2.1,(g z r).2.1⟩) ⟨A,D⟩ (by omega) (by omega)
 cases ok with
 |false=>exact⟨0,0,5,Gp k L G a x w n hok o (by omega) wp s1,by decide,by decide,.inl rfl⟩
 |true=>
  obtain⟨t,q⟩:=s2 rfl;have T:=fun j (c:j≤42)=>Ha d hk.n hk.b hg bg qL qa j c;have E:=fun j (c:j≤42)=>G9 d hk.n hk.b hg bg qL qa qx j c;have S:=fun j (c:j≤43)=>Hd d hk.n hk.b hg bg qL qa qx j c
  have v:∀j,j≤43→qs (suK k G L a x j)≤20000000000:=fun j c=>by
   have F:=S j c;have K:j* 420000001≤43* 420000001:=Nat.mul_le_mul_right _ c;omega
  have s:OkVa k L G a x w n 90000000000:=⟨hok,o,by omega,by unfold sm;omega,wp,fun j c=>⟨(T j (by omega)).2.2.1,(T j (by omega)).2.2.2.1,by have:=(T j (by omega)).2.2.2.2;omega⟩,fun j c=>(E j (by omega)).1,fun j c=>by have:=v j (by omega);omega,fun j c=>by have:=(E j (by omega)).2;omega,by omega,by omega⟩;have C:=IK k L G a x w n 90000000000 t s s1;have e1:=Ez al be k k.length (Nat.le_refl _);rw[List.take_length] at e1;rw[e1,u9,show((4:Int):Rat)=4 from rfl] at q;have H:=v (n+1) (by omega);have qd:=iN w 2;have q2:qs (2:Rat)≤2:=by decide
  have t1:=fX (suK k G L a x (n+1)) (-(w/ 2));rw[fv,←Rat.sub_eq_add_neg] at t1;have t2:=fX (suK k G L a x (n+1)) (w/ 2);exact⟨_,_,0,C,by unfold sm;omega,by unfold sm;omega,.inr (.inr ⟨rfl,wp,n,q,rfl,rfl⟩)⟩
theorem fs_Meet(a b c d:Rat)(ha:sm a)(hb:sm b)(hc:sm c)(hd:sm d)(h1:a≤b)(h2:a≤d)(h3:c≤b)(h4:c≤d):FS 18 [.agg (spC a b),.agg (spC c d)] (.tup [.agg (spC (dM [a,c]) (eV [b,d])),bln true]):=by
 have m1:=H2 a c;have m2:=rn b d;have f:=tz [a,c] (mI ha hc) (by simp);have g:=zU [b,d] (mI hb hd) (by simp);have i:=rn a c;have s1:sm (dM [a,c]):=by rcases i.2 with⟨_,e⟩|⟨_,e⟩<;> rw[e]<;> assumption
 have s2:sm (eV [b,d]):=by rcases m2.2 with⟨e,_⟩|⟨e,_⟩<;> rw[e]<;> assumption
 have j:dM [a,c]≤eV [b,d]:=by rcases i.2 with⟨_,e⟩|⟨_,e⟩<;> rcases m2.2 with⟨e2,_⟩|⟨e2,_⟩<;> rw[e,e2]<;> assumption
 have hv:=lZ (dM [a,c]) (eV [b,d]) s1 s2
 rw[decide_eq_true (show dB (dM [a,c]) (eV [b,d])≤0 by
  unfold dB;split;decide;rw[if_pos (by grind)];decide)] at hv
 refine f_c Tryz.func18 ?_;refine r_z 4 ?_;refine ae (r_d ba 15 ?_);refine a_5 ?_;refine o_1 (.callS1 rfl rfl rfl (.shut rfl d_n (.nil)) rfl (f)) ?_;refine a_5 ?_;refine o_1 (.callS1 rfl rfl rfl (.shut rfl d_n (.nil)) rfl (g)) ?_;refine a_3 ?_;refine au (n_k ?_);refine ae (r_c 3 (hv) ?_);refine a_z ?_;refine cF (an (r_z 3 ?_));refine ak (Fin.many ⟨_,_,rfl,⟨_,_,_,_,_,rfl,rfl,rfl,.inl ⟨TG.h,_,TS.h,nle rfl,rfl⟩⟩,⟨_,_,rfl,rfl,rfl⟩⟩ (nle rfl) ?_);exact ai (ao ay (bJ _ _)) (ai (ao ay (ah _)) aw)
theorem GW{k:Ke}{L:Rat}{G:List Rat}{a:Rat}{m:Nat}(hm:m≤8)(hk:TmK k)(hg:G.length≤5)(bg:bdL G 20)(qL:qs L≤20)(qa:qs a≤20):
    bdL (seK (mvK a k) (ca [a,1] G) L m (m+1)) 200000∧(∀p∈mvK a k,(p.1.length≤4∧p.2.length≤4)∧bdL p.1 400∧bdL p.2 400)∧bdL (cn (seK (mvK a k) (ca [a,1] G) L m (m+1)) (ca [a,1] G)) 300000:=by
 obtain⟨E,J,o,w,z,D,h⟩:=xg hk.l hk.n hk.b;obtain⟨e,u,d0⟩:=oe qa;obtain⟨r,j,y⟩:=oe qL;obtain⟨F,i⟩:=o8 G bg;have i:=i.mono (show _≤101 by omega);obtain⟨C,A,c,s,q,t,f⟩:=yL o w z D h d0 u e;obtain⟨B,d⟩:=HS_shift' (N:=4) d0 u e i (by omega);have d:=d.mono (show _≤3000 by omega);have v:=hk.l;have g:(mvK a k).length≤900:=by unfold mvK;simp;omega
 obtain⟨⟨K,H⟩,_⟩:=C3 (k:=mvK a k) (G:=ca [a,1] G) (L:=L) c g (by omega) (by omega) s q t f d y j r (n:=m) (by omega) (m+1) (by omega);have b1:=bdL_mono' (b:=200000) (H.bdL (by omega)) (by omega);have b2:=sR (d.bdL (by omega)) (by omega) (show qs (-1)≤1 by decide);have x:=FB b1 b2 (by omega) (by omega);exact⟨b1,fun p hp=>⟨c.len p hp,bdL_mono' ((c.a p hp).bdL (by omega)) (by omega),bdL_mono' ((c.b p hp).bdL (by omega)) (by omega)⟩,bdL_mono' x (by omega)⟩
def voS(k:Ke)(L:Rat)(G:List Rat)(a x:Rat)(m:Nat)(u o:List Rat)(wr vr:fK):Nat→AState
 |i=>⟨[(12,bNu wr),(13,bNu vr),(17,bEq k L G),(20,bQ a),(22,bQ x),(24,i64 m),(25,.arr (pE u)),(27,.arr (pE (reL L u ((mvK a k).take i) o))),(28,i64 i)],[],1,228⟩
def vpS(k:Ke)(L:Rat)(G:List Rat)(a x:Rat)(m:Nat)(r:List Rat)(wr vr:fK):Nat→AState
 |j=>⟨[(12,bNu wr),(13,bNu vr),(17,bEq k L G),(20,bQ a),(22,bQ x),(24,i64 m),(27,.arr (pE r)),(30,i64 j)],[],1,228⟩
theorem pc(l:List iA)(ar xr cr wr vr:fK)(gr:List fK)(n:Nat)(ho:∀t∈l,zk t)(hll:l.length≤9223372036854775807)(ha:okN ar)(hx:okN xr)(hc:okN cr)(hwr:okN wr)(hvr:okN vr)(hg:okR gr)(hgl:gr.length≤9223372036854775807)(hn:n≤255):
    FS 3 [.arr (twR l),.agg (nuC ar.1 ar.2.1 ar.2.2),.agg (nuC xr.1 xr.2.1 xr.2.2),.agg (nuC cr.1 cr.2.1 cr.2.2),.agg (nuC wr.1 wr.2.1 wr.2.2),.agg (nuC vr.1 vr.2.1 vr.2.2),.arr (nR gr),.v (.int .u8 (n:Int))] (.v (.bool true)):=by
 have z0:okN (0,0,0):=⟨⟨by decide,by decide⟩,⟨by decide,by decide⟩,by decide⟩;obtain⟨k1,g1,b,hP,hk1,hg1,hb⟩:=Ix l (0,0,0) (0,0,0) cr gr ho hll z0 z0 hc hg hgl;have ht:=rU [ar,xr,wr,vr] 4 (by simp) (by decide);have d:=Dy;have htl:(twR l).length=l.length:=vk l;refine f_n Tryz.func3 ?_ ?_;exact ac (dr l) (ac (aB (dQ ar)) (ac (aB (dQ xr)) (ac (aB (dQ cr)) (ac (aB (dQ wr)) (ac (aB (dQ vr)) (ac (aK (cU gr)) (ac (ah _) ag)))))));refine r_z 6 ?_;cases b with
 |false=>
  refine r_c 14 (hP) ?_;refine a_z ?_;refine ae (q_z 16 ?_);refine cT (r_c 2 (d) ?_);refine a_z ?_;exact ak (t_e (ah _))
 |true=>
 obtain⟨rfl,rfl,c⟩:=hb rfl;refine r_c 14 (hP) ?_;refine a_z ?_;cases et:gz [ar,xr,wr,vr] 4 with
 |false=>
  rw[et] at ht;refine ae (s_r 16 ?_);refine d_7 ?_;refine AR.op1y rfl rfl rfl (.buildSlice te_25.h TZ.h rfl (by decide) rfl rfl rfl (by simp[nuC])) rfl rfl ?_;refine AR.op1y rfl rfl rfl (.callS1 rfl rfl rfl (.shut rfl d_n (.keep (.nil))) rfl (ht)) rfl rfl ?_;refine d_z ?_;refine cT (r_c 2 (d) ?_);refine a_z ?_;exact ak (t_e (ah _))
 |true=>
 rw[et] at ht;by_cases hl2:2< l.length;refine ae (s_r 16 ?_);refine d_7 ?_;refine AR.op1y rfl rfl rfl (.buildSlice te_25.h TZ.h rfl (by decide) rfl rfl rfl (by simp[nuC])) rfl rfl ?_;refine AR.op1y rfl rfl rfl (.callS1 rfl rfl rfl (.shut rfl d_n (.keep (.nil))) rfl (ht)) rfl rfl ?_;refine d_z ?_;refine cT (r_c 2 (d) ?_);refine a_z ?_;exact ak (t_e (ah _));refine ae (s_r 16 ?_);refine d_7 ?_;refine AR.op1y rfl rfl rfl (.buildSlice te_25.h TZ.h rfl (by decide) rfl rfl rfl (by simp[nuC])) rfl rfl ?_;refine AR.op1y rfl rfl rfl (.callS1 rfl rfl rfl (.shut rfl d_n (.keep (.nil))) rfl (ht)) rfl rfl ?_;refine d_z ?_;refine cF (an ?_)
 have N:okR [ar,xr,wr,vr]:=fun r hr=>by
  simp only[List.mem_cons,List.not_mem_nil,or_false] at hr;rcases hr with rfl|rfl|rfl|rfl
  exact ha;exact hx;exact hwr;exact hvr
 obtain⟨U,_⟩:=qD et N;have qa:qs (nV ar)≤20:=U _ (by simp[nL]);have qx:qs (nV xr)≤20:=U _ (by simp[nL]);have qw:qs (nV wr)≤20:=U _ (by simp[nL]);have qv:qs (nV vr)≤20:=U _ (by simp[nL]);have R:=c.qc;have e:=c.t;have hke:=c.ok;have hdg:=c.dg;have bg:=c.bg;have lg:=c.lg;have Y:=jN ar.1 ar.2.1 ar.2.2 ha.1 ha.2.1 ha.2.2;have box:=jN xr.1 xr.2.1 xr.2.2 hx.1 hx.2.1 hx.2.2;have bow:=jN wr.1 wr.2.1 wr.2.2 hwr.1 hwr.2.1 hwr.2.2;have X:=jN vr.1 vr.2.1 vr.2.2 hvr.1 hvr.2.1 hvr.2.2;refine r_c 9 (Y) ?_;refine a_z ?_;refine r_c 9 (box) ?_;refine a_z ?_;refine r_z 4 ?_;obtain⟨m,hm⟩:∃m:Nat,m=n % 9:=⟨_,rfl⟩;have V:m≤8:=by omega
 change qs (kW ar.1 ar.2.1 ar.2.2)≤20 at qa;change qs (kW xr.1 xr.2.1 xr.2.2)≤20 at qx;change qs (kW wr.1 wr.2.1 wr.2.2)≤20 at qw;change qs (kW vr.1 vr.2.1 vr.2.2)≤20 at qv;generalize keM l=k at *
 generalize nV cr=L at *
 generalize nL gr=G at *
 generalize kW ar.1 ar.2.1 ar.2.2=a at *
 generalize kW xr.1 xr.2.1 xr.2.2=x at *
 have hS:=yk k L G a m (by omega) (tY (by omega) e.l e.n e.b lg bg R qa);have f:=tY (k:=k) (l:=L) (g:=G) (a:=a) (n:=m) (by omega) e.l e.n e.b lg bg R qa;obtain⟨f1,f2,f3⟩:=GW V e lg bg R qa;have M:=fun i (hi:i≤m)=>FT (k:=mvK a k) (G:=ca [a,1] G) (L:=L) hi;have hul:=uD (mvK a k) (ca [a,1] G) L m (m+1);generalize seK (mvK a k) (ca [a,1] G) L m (m+1)=u at *
 obtain⟨al,be,ga,h1,h2,h3,hV⟩:=GX (x:=x) e hke lg bg R qa qx;obtain⟨o,D⟩:∃o,o=cn u (ca [a,1] G):=⟨_,rfl⟩;rw[←D] at M f3;have hgc:=jr a G;have hol:o.length≤20:=by have:=nw u (ca [a,1] G);rw[D];omega
 have hkl:=e.l;have hml:(mvK a k).length=k.length:=by simp[mvK]
 obtain⟨R1,R2⟩:=HE (L:=L) (u:=u) (by omega) f1 R (mvK a k) o 300000 f2 f3 (by omega) (by omega) hol;have hD:=eE u (by omega);have hdu:cQ u≤m:=Am u (by omega);have hsh:=lY G a f.mg (by omega);have K:=zT u (ca [a,1] G) (eP f1 (by omega)) f.sg (by omega) f.gl2;rw[←D] at K;have Q:(n:Int) % 9=(m:Int):=by omega
 refine AWp.ent (st':=⟨[(12,bNu wr),(13,bNu vr),(17,bEq k L G),(20,bQ a),(22,bQ x),(24,i64 m)],[],1,228⟩) ?_ ?_;refine s_x [] (fun hs=>?_) (fun hs=>?_)
 ·repeat' (first|exact aS|refine az rfl ?_ ?_|exact Cv.loE hs (congrArg (fun z=>AV.v (.int .i64 z)) Q) (ah _)|exact Cv.boxp hs rfl (aQ rfl) rfl (dQ _)|exact Cv.boxp hs rfl (aQ rfl) rfl (cG _ _ _)|exact Cv.boxp hs rfl (aQ rfl) rfl (a7 _)|exact bm)
 ·repeat' (first|exact aI|refine h_c ?_ ?_|exact cu|refine aG ?_|exact aw|refine ai ?_ ?_|exact Cv.loE hs (congrArg (fun z=>AV.v (.int .i64 z)) Q) (ah _)|exact Cv.boxp hs rfl (aQ rfl) rfl (dQ _)|exact Cv.boxp hs rfl (aQ rfl) rfl (cG _ _ _)|exact Cv.boxp hs rfl (aQ rfl) rfl (a7 _)|exact bm)
 refine r_c 9 (hS) ?_;refine a_z ?_;refine ae (s_r 8 ?_);refine a_1 ?_;refine o_0 (.bin rfl rfl (vF eM (rfl))) ?_;refine e_s (hD) ?_;refine d_z ?_;refine cF (an (r_c 7 (hsh) ?_));refine c_s (K) ?_;refine a_z ?_;refine ae (r_z 1 ?_);refine aH (fun _:Unit=>⟨[(12,bNu wr),(13,bNu vr),(17,bEq k L G),(20,bQ a),(22,bQ x),(24,i64 m),(27,.arr (pE (reL L u (mvK a k) o)))],[],1,228⟩) (fun _=>True) ?_ ?_;refine am (aD (voS k L G a x m u o wr vr) (fun i=>k.length- i) (fun i=>i≤k.length) 0 (Nat.zero_le _) ?_ ?_);rw[voS.eq_1];show SEnt _ ⟨[(12,bNu wr),(13,bNu vr),(17,bEq k L G),(20,bQ a),(22,bQ x),(24,i64 m),(25,.arr (pE u)),(27,.arr (pE o)),(28,i64 ((0:Nat):Int))],[],1,_⟩;exact s_x [] (fun hs=>e_2) (fun hs=>e_3);intro i hi;rw[voS.eq_1];have hkk:(kE k).length=k.length:=ec k;by_cases hlt:i< k.length;obtain⟨p,hp⟩:∃p,k[i]?=some p:=⟨_,List.getElem?_eq_getElem hlt⟩;have q:(kE k)[((i:Nat):Int).toNat]?=some (prC p):=kM hp _ (by simp);have T:(mvK a k)[i]?=some (ca [a,1] p.1,ca [a,1] p.2):=by unfold mvK;rw[List.getElem?_map,hp];rfl
 have ok:=R1 i _ T;obtain⟨c1,C⟩:=f.mv p (List.mem_of_getElem? hp);have s1:=lY p.1 a c1.1 c1.2;have s2:=lY p.2 a C.1 C.2;have g1:=oI _ u ok.m1;have g2:=nY _ (nJ ok.m1) ok.i1;have g3:=oI _ _ ok.m2;have g4:=iq _ L (nJ ok.m2) (by unfold sm;omega) ok.l2;have g5:=zT _ _ ok.o1 ok.s1 ok.o2 (Nat.le_trans (dn _ _) ok.l2);have hst:reL L u ((mvK a k).take (i+1)) o=cn (reL L u ((mvK a k).take i) o) (aL (aJ (ca [a,1] p.1) (ax (aJ (ca [a,1] p.2) u))) L):=by rw[reL_s T,reF]
 refine ae (q_z 5 ?_);refine cT (an (ae (am (ae (r_d ba 12 ?_)))));refine a_3 ?_;refine i_x q ?_;refine a_1 ?_;refine l_1 q ?_;refine c_s (s2) ?_;refine c_s (g1) ?_;refine c_s (g2) ?_;refine a_1 ?_;refine au (n_k ?_);refine r_d ba 16 ?_;refine a_4 ?_;refine i_x q ?_;refine a_1 ?_;refine l_1 q ?_;refine c_s (s1) ?_;refine c_s (g3) ?_;refine c_s (g4) ?_;refine c_s (g5) ?_;refine a_1 ?_;refine au (n_k ?_);refine r_m 3 ?_;refine a_z ?_;refine⟨i+1,by omega,by omega,?_⟩;rw[voS.eq_1,hst];exact s_x [] (fun hs=>e_2) (fun hs=>e_3);have hge:i=k.length:=by omega
 refine ae (q_z 5 ?_);refine cF (aA ⟨(),trivial,?_⟩);rw[List.take_of_length_le (by omega)];exact s_x [] (fun hs=>e_2) (fun hs=>e_3);rintro _ _;generalize reL L u (mvK a k) o=r at *
 refine ae (r_z 1 ?_);refine aH (fun _:Unit=>⟨[(12,bNu wr),(13,bNu vr),(17,bEq k L G),(20,bQ a),(22,bQ x)],[],1,228⟩) (fun _=>True) ?_ ?_;refine am (aD (vpS k L G a x m r wr vr) (fun j=>r.length- j) (fun j=>j≤r.length) 0 (Nat.zero_le _) ?_ ?_);rw[vpS.eq_1];exact s_x [] (fun hs=>e_2) (fun hs=>e_3);intro j hj;rw[vpS.eq_1];have hrl:(pE r).length=r.length:=by simp[pE]
 by_cases hlt:j< r.length;by_cases hjm:j≤m;have s:(pE r)[((j:Nat):Int).toNat]?=some (qC (coP r j)):=pE_get (cK hlt) _ (by simp);have E:=cx (coP r j);rw[M j hjm] at E s;refine ae (q_z 9 ?_);refine cT (an (ae (am (s_r 6 ?_))));refine a_2 ?_;refine i_x s ?_;refine l_x s ?_;refine c_s (E) ?_;refine o_0 (.bin rfl rfl (vF eM (rfl))) ?_;refine au ?_;refine cF (an (r_m 3 ?_));refine a_z ?_;refine⟨j+1,by omega,by omega,?_⟩;rw[vpS.eq_1];exact s_x [] (fun hs=>e_2) (fun hs=>e_3);refine ae (q_z 9 ?_);refine cF (aA ⟨(),trivial,?_⟩);exact s_x [] (fun hs=>e_2) (fun hs=>e_3);refine ae (q_z 9 ?_);refine cF (aA ⟨(),trivial,?_⟩);exact s_x [] (fun hs=>e_2) (fun hs=>e_3);rintro _ _;refine r_c 9 (bow) ?_;refine a_z ?_;refine r_c 9 (X) ?_;refine a_z ?_;generalize kW wr.1 wr.2.1 wr.2.2=w at *
 generalize kW vr.1 vr.2.1 vr.2.2=v at *
 obtain⟨J,O,e1,v1,sa1,sb1,c1⟩:=hV w qw;obtain⟨S,H,e2,v2,sa2,W,C⟩:=hV v qv;refine AWp.ent (st':=⟨[(17,bEq k L G),(20,bQ a),(22,bQ x),(31,bQ w),(33,bQ v)],[],1,228⟩) ?_ ?_;refine s_x [] (fun hs=>?_) (fun hs=>?_)
 ·repeat' (first|exact aS|refine az rfl ?_ ?_|exact ao hs (em k L G)|exact ao hs (b7 _)|exact Cv.boxp hs rfl (aQ rfl) rfl (a7 _)|exact bm)
 ·repeat' (first|exact aI|refine h_c ?_ ?_|exact cu|refine aG ?_|exact aw|refine ai ?_ ?_|exact ao hs (em k L G)|exact ao hs (b7 _)|exact Cv.boxp hs rfl (aQ rfl) rfl (a7 _)|exact bm)
 refine r_c 11 (v1) ?_;refine a_z ?_;refine r_c 11 (v2) ?_;refine a_z ?_;refine AWp.ent (st':=⟨[(31,bQ w),(33,bQ v),(35,bSp J O),(36,i64 e1),(37,bSp S H),(38,i64 e2)],[],1,228⟩) ?_ ?_;refine s_x [] (fun hs=>?_) (fun hs=>?_)
 ·repeat' (first|exact aS|refine az rfl ?_ ?_|exact ao hs (b7 _)|exact Cv.boxp hs rfl (aQ rfl) rfl (bi _ _)|exact bm)
 ·repeat' (first|exact aI|refine h_c ?_ ?_|exact cu|refine aG ?_|exact aw|refine ai ?_ ?_|exact ao hs (b7 _)|exact Cv.boxp hs rfl (aQ rfl) rfl (bi _ _)|exact bm)
 have Z:w≤0→sgZ w.num≤0:=fun h=>by
  have h1:¬0< w:=by grind
  have h2:=mt sgZ_num_gt.1 h1;omega
 have sv:v≤0→sgZ v.num≤0:=fun h=>by
  have h1:¬0< v:=by grind
  have h2:=mt sgZ_num_gt.1 h1;omega
 by_cases M:e1=0∧e2=0;obtain⟨z1,z2⟩:=M
 obtain⟨F,n1,p1,rfl,rfl⟩:0< w∧∃n:Nat,stP (e9 (fun p=>al p* be p) k* ab L* (dM [a,x]- eV [a,x])) (ga* 4) w n=true∧J=suK k G L a x (n+1)- w/ 2∧O=suK k G L a x (n+1)+w/ 2:=by
  rcases c1 with h|⟨h,_⟩|⟨_,h⟩
  omega;omega;exact h
 obtain⟨B,n2,p2,rfl,rfl⟩:0< v∧∃n:Nat,stP (e9 (fun p=>al p* be p) k* ab L* (dM [a,x]- eV [a,x])) (ga* 4) v n=true∧S=suK k G L a x (n+1)- v/ 2∧H=suK k G L a x (n+1)+v/ 2:=by
  rcases C with h|⟨h,_⟩|⟨_,h⟩
  omega;omega;exact h
 obtain⟨m1,m2⟩:=rn a x;obtain⟨t1,t2⟩:=GV m1 (m2.imp id id) h1 h2 h3 p1 p2 F B;have hw2:w/ 2* 2=w:=Rat.div_mul_cancel (by decide);have hv2:v/ 2* 2=v:=Rat.div_mul_cancel (by decide);have hM:=fs_Meet _ _ _ _ sa1 sb1 sa2 W (by grind) t1 t2 (by grind);subst z1 z2;refine ae (q_z 6 ?_);refine cF (an (r_c 9 (hM) ?_));refine a_z ?_;refine r_c 5 (d) ?_;refine a_z ?_;exact ak (t_e (ah _));have y:=cx w;have A:=cx v;rcases c1 with rfl|⟨rfl,F⟩|⟨rfl,_⟩
 rcases C with rfl|⟨rfl,B⟩|⟨rfl,_⟩
 refine ae (q_z 6 ?_);refine cT (q_c 36 (d) ?_);refine a_z ?_;exact ak (t_e (ah _));refine ae (q_z 6 ?_);refine cT (q_c 36 (A) ?_);refine bK rfl rfl rfl (.bin rfl rfl (vT dH (decide_eq_true (sv B)))) rfl rfl ?_;refine e_s (d) ?_;refine a_z ?_;exact ak (t_e (ah _));refine ae (q_z 6 ?_);refine cT (q_c 36 (d) ?_);refine a_z ?_;exact ak (t_e (ah _));rcases C with rfl|⟨rfl,B⟩|⟨rfl,_⟩
 refine ae (q_z 6 ?_);refine cT (q_c 36 (y) ?_);refine bK rfl rfl rfl (.bin rfl rfl (vT dH (decide_eq_true (Z F)))) rfl rfl ?_;refine e_s (d) ?_;refine a_z ?_;exact ak (t_e (ah _));refine ae (q_z 6 ?_);refine cT (q_c 36 (y) ?_);refine bK rfl rfl rfl (.bin rfl rfl (vT dH (decide_eq_true (Z F)))) rfl rfl ?_;refine e_s (A) ?_;refine bK rfl rfl rfl (.bin rfl rfl (vT dH (decide_eq_true (sv B)))) rfl rfl ?_;refine e_s (d) ?_;refine a_z ?_;exact ak (t_e (ah _));refine ae (q_z 6 ?_);refine cT (q_c 36 (y) ?_);refine bK rfl rfl rfl (.bin rfl rfl (vT dH (decide_eq_true (Z F)))) rfl rfl ?_;refine e_s (d) ?_;refine a_z ?_;exact ak (t_e (ah _));rcases C with rfl|⟨rfl,B⟩|⟨rfl,_⟩
 refine ae (q_z 6 ?_);refine cT (q_c 36 (d) ?_);refine a_z ?_;exact ak (t_e (ah _));refine ae (q_z 6 ?_);refine cT (q_c 36 (A) ?_);refine bK rfl rfl rfl (.bin rfl rfl (vT dH (decide_eq_true (sv B)))) rfl rfl ?_;refine e_s (d) ?_;refine a_z ?_;exact ak (t_e (ah _));exact absurd ⟨rfl,rfl⟩ M
end Go.Proofs.YtkhclghbcicapaaGreatDoor
namespace Go.Proofs.YtkhclghbcicapaaGreatDoor
open Go.Abs Go.Deep Go.RowKit
set_option maxRecDepth 20000
theorem rvlen{W:World}{l:List fK}{v:Value}(h:RV (fun _=>False) (fun _=>none) W (.arr (nR l)) v):l.length≤9223372036854775807:=by
 obtain⟨_,_,_,b,a,_⟩:=h;have h1:(nR l).length=l.length:=by simp[nR]
 have c:maxLen=9223372036854775807:=by decide
 omega
theorem tySt:(Tryz.prog).underlying 22=some (.slice 142):=by kernel_rfl
def twF:Array Field:= #[{name:= "A",type:=25,offset:=0,embedded:=false,tag:= "",pkgPath:= "",byteOffset:=0},{name:= "B",type:=25,offset:=1,embedded:=false,tag:= "",pkgPath:= "",byteOffset:=24}]
theorem tyTw:(Tryz.prog).underlying 142=some (.struct twF):=by kernel_rfl
theorem tycTw:(Tryz.prog).cellsOf 142=2:=by kernel_rfl
theorem tycS2:(Tryz.prog).cellsOf 25=1:=by kernel_rfl
theorem two_of{H:Type}{enc:TypeId×Value→H}{W:World}{n:Nat}{cs:List Value}{x:DataW H×List MemPlace}(h:DataW.trod enc Tryz.prog W 0 (fun _=>true) true n 142 cs=some x):
    ∃(t:iA) (c0 c1:Value),zk t∧cs=[c0,c1]∧RV (fun _=>False) (fun _=>none) W (.arr (nR t.1)) c0∧RV (fun _=>False) (fun _=>none) W (.arr (nR t.2)) c1:=by
 obtain⟨B,m,_,_,u,d,hg⟩:=DataW.trod_struct tyTw h;rw[tycTw] at u
 match cs,u,B,d with
 |[c0,c1],_,[y0,y1],_=>
  have i:DataW.trod enc Tryz.prog W 0 (fun _=>true) true m 25 (([c0,c1].drop 0).take ((Tryz.prog).cellsOf 25))=some y0:=hg 0 _ rfl;have j:DataW.trod enc Tryz.prog W 0 (fun _=>true) true m 25 (([c0,c1].drop 1).take ((Tryz.prog).cellsOf 25))=some y1:=hg 1 _ rfl;rw[tycS2] at i j;simp only[List.drop,List.take] at i j
  have q:∃a len b,c0= .slice a len b:=by
   rcases open_slice tyS i with⟨c,_⟩|⟨a,len,b,_,_,_,_,c,_⟩
   simp at c;exact⟨_,_,_,c⟩;simp at c;exact⟨_,_,_,c⟩
  have l:∃a len b,c1= .slice a len b:=by
   rcases open_slice tyS j with⟨c,_⟩|⟨a,len,b,_,_,_,_,c,_⟩
   simp at c;exact⟨_,_,_,c⟩;simp at c;exact⟨_,_,_,c⟩
  obtain⟨a,len,b,rfl⟩:=q;obtain⟨A,g,f,rfl⟩:=l;have o:DataW.Trod enc Tryz.prog W 0 (fun _=>true) true 25 (.slice a len b) y0.1 y0.2:=⟨m,by simpa[Value.cells] using i⟩;have p:DataW.Trod enc Tryz.prog W 0 (fun _=>true) true 25 (.slice A g f) y1.1 y1.2:=⟨m,by simpa[Value.cells] using j⟩;obtain⟨m0,k,r0⟩:=y8 o;obtain⟨m1,s,v⟩:=y8 p;have C:maxLen=9223372036854775807:=by decide
  have y:m0.length≤9223372036854775807:=by
   obtain⟨_,_,w,r,e,_⟩:=r0;have:(nR m0).length=m0.length:=by simp[nR]
   omega
  have z:m1.length≤9223372036854775807:=by
   obtain⟨_,_,w,r,e,_⟩:=v;have:(nR m1).length=m1.length:=by simp[nR]
   omega
  exact⟨(m0,m1),_,_,⟨⟨k,s⟩,y,z⟩,rfl,r0,v⟩
theorem twP_of{H:Type}{enc:TypeId×Value→H}{W:World}{a:Option Addr}{len cap:Nat}{d:DataW H}{ps:List MemPlace}(h:DataW.Trod enc Tryz.prog W 0 (fun _=>true) true 22 (.slice a len cap) d ps):
    ∃l:List iA,((∀t∈l,zk t)∧l.length≤9223372036854775807)∧RV (fun _=>False) (fun _=>none) W (.arr (twR l)) (.slice a len cap):=by
 obtain⟨L,hf⟩:=h;rcases open_slice tySt hf with⟨o,_⟩|⟨x,N,O,m,n,D,Pl,o,_,T,Q,y,_,C⟩
 simp[Value.cells] at o;obtain⟨rfl,rfl,rfl⟩:=o;exact⟨[],⟨(fun r G=>by cases G),by simp⟩,none,0,rfl,Nat.le_refl _,by decide,.inl rfl⟩;simp[Value.cells] at o;obtain⟨rfl,rfl,rfl⟩:=o;simp only[if_true] at y;have B:m=cap:=y;rw[B] at C;rw[tycTw] at C
 have K:∀i,i< len→∃r:iA×Value×Value,zk r.1∧W.cells? 0 (x.add (i* 2)) 2=some [r.2.1,r.2.2]∧RV (fun _=>False) (fun _=>none) W (.arr (nR r.1.1)) r.2.1∧RV (fun _=>False) (fun _=>none) W (.arr (nR r.1.2)) r.2.2:=fun i A=>by
  obtain⟨Y,S,X⟩:=C i (by omega);obtain⟨t,u,c1,U,e,E,J⟩:=two_of X;exact⟨(t,u,c1),U,by rw[S,e],E,J⟩
 obtain⟨R,F⟩:=choose_lt (α:=iA×Value×Value) K;have Z:maxLen=9223372036854775807:=by decide
 refine⟨(List.range len).map fun i=>(R i).1,⟨?_,by simp;omega⟩,some x,cap,by simp[twR],by simpa[twR] using T,Q,?_⟩;intro r G;obtain⟨i,A,rfl⟩:=List.mem_map.1 G;exact(F i (List.mem_range.1 A)).1;by_cases h0:len=0;subst h0;exact .inl rfl;right
 have c:∀i,i< len→∀j (v:Value),[(R i).2.1,(R i).2.2][j]?=some v→W.cell? (x.add (i* 2+j))=some v:=fun i A j v hv=>by
  have V:j< 2:=by
   have:=(List.getElem?_eq_some_iff.1 hv).1;simpa using this
  have:=(World.cells?_some (F i A).2.1).2.2 j V;rw[hv,Go.Deep.add_add] at this;exact this
 have u:=c 0 (by omega) 0 _ rfl;obtain⟨b,off,z⟩:=x;have q:z=none:=by simpa[Addr.add] using World.cell?_spot u
 subst q
 have g:∀k,Addr.add ⟨b,off,none⟩ k=⟨b,off+k,none⟩:=fun k=>by
  unfold Addr.add;by_cases hk:k=0;simp[hk];simp[hk]
 refine⟨b,off,2,rfl,qE (by rw[g] at u;exact u),(fun h=>h),?_⟩;have:=DX (M:=fun _=>False) (β:=fun _=>none) (w:=W) (b:=b) (s:=2) (off:=off) (f:=fun i=>twC (R i).1) len 0 (fun i A=>⟨rfl,?_⟩);rw[Nat.zero_mul,Nat.add_zero,←List.range_eq_range'] at this;rw[twR,List.map_map];exact this;have p:i< len:=by omega
 obtain⟨_,_,E,J⟩:=F i p;refine⟨⟨_,?_,E⟩,⟨_,?_,J⟩,trivial⟩;have:=c i p 0 _ rfl;rw[g] at this;exact this;have:=c i p 1 _ rfl;rw[g] at this;rw[Nat.add_assoc];exact this
end Go.Proofs.YtkhclghbcicapaaGreatDoor
